/-
  What the proof of BoundsNone leans on, part 5 of 6: walks of the program's functions at the level of values, and plain facts of what they compute.
-/
import Derived.Test.YtfooincnmobemaaDoorPBoundsNone4
namespace Go.Proofs.YtfooincnmobemaaDoor.Ex
open Go.RowKit V Pk Vl Go.Proofs.YtfooincnmobemaaDoor.Nm Go.Proofs.YtfooincnmobemaaDoor.Pc Go.Proofs.YtfooincnmobemaaDoor.Cd
set_option linter.unusedVariables false
set_option linter.unusedSimpArgs false

open Go.Lib (compareBytes)
/-- Where what ends ahead of a place begins. -/
def opK (ops : List OpL) (i : Nat) : Int := (ops.getD i (bareOp 0)).k
def begF (ops : List OpL) : Nat → Int → Nat
 | 0, _ => 0
 | i + 1, need => if need + (popsF (opK ops i) - 1) > 0 then begF ops i (need + (popsF (opK ops i) - 1)) else i
theorem opK_at {ops : List OpL} {i : Nat} (h : i < ops.length) : opK ops i = ops[i].k := by unfold opK; rw [List.getD_eq_getElem?_getD, List.getElem?_eq_getElem h]; rfl
theorem err_up {h h' : Int} {o : OpL} (he : opErr h o = 0) (hp : popsF o.k ≤ h') : opErr h' o = 0 := by
 unfold opErr at he ⊢
 split at he
 ·cases he
 ·rename_i q1; rw [if_neg q1]
  split at he
  ·rename_i h2; exact absurd he h2
  ·rename_i q2; rw [if_neg q2]
   split at he
   ·cases he
   ·rename_i q3; rw [if_neg q3]
    split at he
    ·rename_i h4; exact absurd he h4.2
    ·rename_i q4; rw [if_neg q4, if_neg (by omega)]
theorem runs_last {ops : List OpL} {n : Nat} {h : Int} (hn : n < ops.length) (e : runs 0 (ops.take (n + 1)) = some h) : ∃ h', runs 0 (ops.take n) = some h' ∧ opErr h' ops[n] = 0 ∧ h = h' + (1 - popsF ops[n].k) := by
 rw [List.take_succ_eq_append_getElem hn, runs_append] at e
 cases hr : runs 0 (ops.take n) with
 | none => rw [hr] at e; cases e
 | some h' =>
  rw [hr, Option.bind_some, runs] at e
  split at e
  ·rename_i he
   rw [runs] at e
   cases e
   exact ⟨h', rfl, he, rfl⟩
  ·cases e
theorem beg_spec {ops : List OpL} : ∀ (n : Nat) (need h : Int), n ≤ ops.length → runs 0 (ops.take n) = some h → 1 ≤ need → need ≤ h →
  begF ops n need < n ∧ runs 0 (ops.take (begF ops n need)) = some (h - need) ∧ ∀ k : Int, 0 ≤ k → runs k ((ops.take n).drop (begF ops n need)) = some (k + need)
 | 0, need, h, _, e, h1, h2 => by rw [List.take_zero, runs] at e; cases e; omega
 | n + 1, need, h, hn, e, h1, h2 => by
  have hlt : n < ops.length := by omega
  obtain ⟨h', e1, e2, e3⟩ := runs_last hlt e
  have hpb := pops_bd ops[n].k
  have hpo := (err_pops e2).1
  have hdrop : ∀ m, m ≤ n → (ops.take (n + 1)).drop m = (ops.take n).drop m ++ [ops[n]] := fun m hm => by
   rw [List.take_succ_eq_append_getElem hlt, List.drop_append, show m - (ops.take n).length = 0 by rw [List.length_take]; omega, List.drop_zero]
  rw [begF, opK_at hlt]
  by_cases hc : need + (popsF ops[n].k - 1) > 0
  ·rw [if_pos hc]
   obtain ⟨q1, q2, q3⟩ := beg_spec n (need + (popsF ops[n].k - 1)) h' (by omega) e1 (by omega) (by omega)
   refine ⟨by omega, by rw [q2]; congr 1; omega, fun k hk => ?_⟩
   rw [hdrop _ (by omega), runs_append, q3 k hk, Option.bind_some, runs, if_pos (err_up e2 (by omega)), runs]
   congr 1; omega
  ·rw [if_neg hc]
   refine ⟨by omega, by rw [e1]; congr 1; omega, fun k hk => ?_⟩
   rw [hdrop n (Nat.le_refl _), List.drop_of_length_le (by rw [List.length_take]; omega), List.nil_append, runs, if_pos (err_up e2 (by omega)), runs]
   congr 1; omega
def keyCol (key : ByteArray) (o : OpL) : Bool := o.k == 2 && o.nm.toList == key.toList
def litNN (o : OpL) : Bool := o.k == 1 && !(o.v.k == 0)
abbrev BdL := List UInt8 × List UInt8
def lowF (k : List UInt8) (b : BdL) : BdL := if compareBytes k b.1 > 0 then (k, b.2) else b
def highF (k : List UInt8) (b : BdL) : BdL := if b.2.length = 0 ∨ compareBytes k b.2 < 0 then (b.1, k) else b
/-- Bounds that a comparison of the key narrows: key, at a place; the value's key; what is compared, and whether it must not be. -/
def cutB (kc : Int) (eq not : Bool) (k : List UInt8) (b : BdL) : BdL :=
  bif eq || (kc == 0) != not then highF k (bif eq || (kc == 0) == not then lowF k b else b) else bif eq || (kc == 0) == not then lowF k b else b
def litK (ops : List OpL) : List UInt8 := (encR [(ops.getD (idxG litNN (ops.take 2)).toNat (bareOp 0)).v]).1
/-- Bounds narrowed by what is no AND; the ops without the NOT behind them. -/
def leafB (key : ByteArray) (ops : List OpL) (not : Bool) (b : BdL) : BdL :=
  if ops.length ≠ 3 ∨ (not = true ∧ opK ops (ops.length - 1) ≠ 7) ∨ (opK ops (ops.length - 1) ≠ 6 ∧ opK ops (ops.length - 1) ≠ 7) then b
  else if idxG (keyCol key) (ops.take 2) < 0 ∨ idxG litNN (ops.take 2) < 0 then b
  else cutB (idxG (keyCol key) (ops.take 2)) (opK ops (ops.length - 1) == 6) not (litK ops) b
/-- Bounds narrowed by an expression. -/
def narF (key : ByteArray) : Nat → List OpL → BdL → BdL
  | 0, _, b => b
  | f + 1, ops, b =>
    if opK ops (ops.length - 1) = 3 then narF key f ((ops.take (ops.length - 1)).drop (begF ops (ops.length - 1) 1)) (narF key f (ops.take (begF ops (ops.length - 1) 1)) b)
    else if opK ops (ops.length - 1) = 5 then leafB key (ops.take (ops.length - 1)) true b
    else leafB key ops false b
variable {G : List (Nat × List Value)} {m : Int}

set_option maxHeartbeats 4000000 in
set_option maxRecDepth 100000 in
theorem begins_vp (ops : List OpL) (h40 : ops.length ≤ 40) (n : Nat) (hn : n ≤ ops.length) (h : Int) (hr : runs 0 (ops.take n) = some h) (h1 : 1 ≤ h) : VP Tryd.prog G 52 [.list 5 (ops.flatMap cO) ops.length, .v (.int .i64 (n : Nat))] (.v (.int .i64 (begF ops n 1 : Nat))) := by
 refine VC.body Tryd.func52 rfl Tryd.ntmps52 (Nat.le_of_ble_eq_true rfl) fun X0 w0 S00 => ?_
 refine CD.seq ?_
 refine CD.region ?_
 refine OD.still (wants_plain rfl) rfl (still_as rfl opd_const) ?_
 refine OD.wk (Wk.as_ (n := 22) (l' := [(0, _), (1, _)]) (S' := []) rfl rfl ⟨lk, lk, trivial⟩) ?_
 refine OD.nil ?_
 refine CD.seq ?_
 refine CD.region ?_
 refine OD.still (wants_plain rfl) rfl (still_mv rfl ot) ?_
 refine OD.still (wants_plain rfl) rfl (still_as rfl ot) ?_
 refine OD.wk (Wk.as_ (n := 22) (l' := [(0, _), (5, _)]) (S' := []) rfl rfl ⟨lk, lk, trivial⟩) ?_
 refine OD.nil ?_
 refine CD.seq ?_
 refine CD.seq ?_
 refine CD.region ?_
 refine OD.still (wants_plain rfl) rfl (still_as rfl opd_const) ?_
 refine OD.wk (Wk.as_ (n := 22) (l' := [(0, _), (5, _), (6, _)]) (S' := []) rfl rfl ⟨lk, lk, lk, trivial⟩) ?_
 refine OD.nil ?_
 refine CD.block ?_
 refine CD.wk (Wk.asS (n := 22) (l' := [(0, .list 5 (ops.flatMap cO) ops.length), (5, .v (.int .i64 (n : Nat))), (6, .v (.int .i64 (1)))]) (S' := []) rfl (by repeat (first | exact List.Sublist.refl _ | apply List.Sublist.cons)) ⟨(by (repeat (first | exact look_hit | (apply look_at; focus (first | rfl | (simp; done) | (congr 2; omega))) | (apply look_miss; focus rfl))); done), (by (repeat (first | exact look_hit | (apply look_at; focus (first | rfl | (simp; done) | (congr 2; omega))) | (apply look_miss; focus rfl))); done), (by (repeat (first | exact look_hit | (apply look_at; focus (first | rfl | (simp; done) | (congr 2; omega))) | (apply look_miss; focus rfl))); done), trivial⟩) (CD.loop (fun (gh__ : Nat × Int) y__ => match gh__ with | (i, need) => (i ≤ n) ∧ (0 ≤ need) ∧ (need ≤ 1 + 2 * ((n : Int) - i)) ∧ ((need = 0 ∧ begF ops n 1 = i) ∨ (1 ≤ need ∧ begF ops n 1 = begF ops i need ∧ ∃ h, runs 0 (ops.take i) = some h ∧ need ≤ h)) ∧ y__ = (⟨22, [(0, .list 5 (ops.flatMap cO) ops.length), (5, .v (.int .i64 (i : Nat))), (6, .v (.int .i64 need))], []⟩ : St)) (fun (gh__ : Nat × Int) => match gh__ with | (i, need) => i) (n, 1) ⟨(Nat.le_refl _), (by decide), (by omega), (.inr ⟨by decide, rfl, h, hr, h1⟩), rfl⟩ ?_)
 rintro ⟨i, need⟩ _ ⟨hi, hn0, hnb, hinv, rfl⟩
 refine CD.seq ?_
 refine CD.seq ?_
 refine CD.region ?_
 refine OD.still (wants_plain rfl) rfl (still_mv rfl ot) ?_
 refine OD.still (wants_plain rfl) rfl (still_bin rfl ot opd_const bin_gtr) ?_
 refine OD.wk (Wk.as_ (n := 22) (l' := [(0, _), (5, _), (6, _), (9, _)]) (S' := []) rfl rfl ⟨lk, lk, lk, lk, trivial⟩) ?_
 refine OD.nil ?_
 refine CD.cond ot (fun hc0 => ?_) (fun hc0 => ?_)
 ·have hc0' := hc0
  (try simp only [V.cnd, ne_eq] at hc0')
  obtain ⟨hz, _⟩ | ⟨hn1, hbe, h2, e1, e2⟩ := hinv
  ·omega
  have hi0 : 0 < i := by rcases Nat.eq_zero_or_pos i with rfl | h; rw [List.take_zero, runs] at e1; cases e1; omega; exact h
  have hiw1 : -9223372036854775808 ≤ ((i - 1 : Nat) : Int) := by omega
  have hiw2 : ((i - 1 : Nat) : Int) ≤ 9223372036854775807 := by omega
  have hi1 : (i : Int) - 1 = ((i - 1 : Nat) : Int) := by omega
  have hlt : i - 1 < ops.length := by omega
  have hpb := pops_bd ops[i - 1].k
  obtain ⟨h3, e3, e4, e5⟩ := runs_last hlt (by rw [show i - 1 + 1 = i by omega]; exact e1)
  have hpo := (err_pops e4).1
  have hbs : begF ops i need = if need + (popsF ops[i - 1].k - 1) > 0 then begF ops (i - 1) (need + (popsF ops[i - 1].k - 1)) else i - 1 := by obtain ⟨j, rfl⟩ : ∃ j, i = j + 1 := ⟨i - 1, by omega⟩; rw [begF, opK_at (by omega)]; rfl
  have hnx : (need + (popsF ops[i - 1].k - 1) = 0 ∧ begF ops n 1 = i - 1) ∨ (1 ≤ need + (popsF ops[i - 1].k - 1) ∧ begF ops n 1 = begF ops (i - 1) (need + (popsF ops[i - 1].k - 1)) ∧ ∃ h, runs 0 (ops.take (i - 1)) = some h ∧ need + (popsF ops[i - 1].k - 1) ≤ h) := by (by_cases hc : need + (popsF ops[i - 1].k - 1) > 0); exact .inr ⟨by omega, by rw [hbe, hbs, if_pos hc], h3, e3, by omega⟩; exact .inl ⟨by omega, by rw [hbe, hbs, if_neg hc]⟩
  refine CD.skip ?_
  refine CD.block ?_
  refine CD.seq ?_
  refine CD.region ?_
  refine OD.still (wants_plain rfl) rfl (still_mv rfl ot) ?_
  refine OD.still (wants_plain rfl) rfl (still_bin rfl ot opd_const (bin_sub (r := ((i - 1 : Nat) : Int)) (by rw [hi1]; exact wrap_i64 hiw1 hiw2))) ?_
  refine OD.still (wants_plain rfl) rfl (still_as rfl ot) ?_
  refine OD.wk (Wk.as_ (n := 22) (l' := [(0, _), (5, _), (6, _)]) (S' := []) rfl rfl ⟨lk, lk, lk, trivial⟩) ?_
  refine OD.nil ?_
  refine CD.region ?_
  refine OD.still (wants_plain rfl) rfl (still_mv rfl ot) ?_
  refine OD.still (wants_plain rfl) rfl (still_mv rfl ot) ?_
  refine OD.still (wants_plain rfl) rfl (still_mv rfl ot) ?_
  refine OD.still (wants_plain rfl) rfl (still_r2 (mk := Op.indexAddr 25) rfl ot ot (by first | exact ix_list Tryd.runUnderlying25 Tryd.sizeOf40 (j := i - 1) rfl (by omega) | exact ix_row Tryd.runUnderlying25 Tryd.sizeOf40 (j := i - 1) rfl (by omega))) ?_
  refine OD.still (wants_plain rfl) rfl (still_r1 (mk := fun y => Op.fieldAddr 40 y 0) rfl ot (by first | exact fa_ptr (off := 0) Tryd.runUnderlying40 rfl Tryd.sizeOf3 rfl | exact fa_iptr (off := 0) Tryd.runUnderlying40 rfl Tryd.sizeOf3 rfl)) ?_
  refine OD.still (wants_plain rfl) rfl (still_r1 (mk := Op.load 3) rfl ot (by first | exact ld_fm cO_len Tryd.isAgg3 (by first | assumption | omega) rfl | exact ld_fm0 cO_len Tryd.isAgg3 (by first | assumption | omega) rfl | exact ld_i Tryd.isAgg3 rfl)) ?_
  refine OD.callP (wants_plain rfl) rfl rfl rfl Tryd.call46 (works_vp ops[i - 1].k) ⟨ot, trivial⟩ ?_
  refine OD.still (wants_plain rfl) rfl (still_bin rfl ot opd_const (bin_sub (wrap_i64 (by omega) (by omega)))) ?_
  refine OD.still (wants_plain rfl) rfl (still_bin rfl ot ot (bin_add (wrap_i64 (by omega) (by omega)))) ?_
  refine OD.still (wants_plain rfl) rfl (still_as rfl ot) ?_
  refine OD.wk (Wk.as_ (n := 22) (l' := [(0, _), (5, _), (6, _)]) (S' := []) rfl rfl ⟨lk, lk, lk, trivial⟩) ?_
  refine OD.nil ?_
  refine ⟨((i - 1), (need + (popsF ops[i - 1].k - 1))), ⟨22, [(0, .list 5 (ops.flatMap cO) ops.length), (5, .v (.int .i64 (((i - 1)) : Nat))), (6, .v (.int .i64 ((need + (popsF ops[i - 1].k - 1)))))], []⟩, ?_, Wk.asS (n := 22) rfl (by repeat (first | exact List.Sublist.refl _ | apply List.Sublist.cons)) ⟨(by (repeat (first | exact look_hit | (apply look_at; focus (first | rfl | (simp; done) | (congr 2; omega))) | (apply look_miss; focus rfl))); done), (by (repeat (first | exact look_hit | (apply look_at; focus (first | rfl | (simp; done) | (congr 2; omega))) | (apply look_miss; focus rfl))); done), (by (repeat (first | exact look_hit | (apply look_at; focus (first | rfl | (simp; done) | (congr 2; omega))) | (apply look_miss; focus rfl))); done), trivial⟩, (by omega), (by omega), (by omega), hnx, rfl⟩
  first | omega | (simp only []; omega)
 ·have hc0' := hc0
  (try simp only [V.cnd, ne_eq] at hc0')
  have hres : begF ops n 1 = i := by rcases hinv with ⟨_, h⟩ | ⟨h, _⟩; exact h; omega
  refine CD.exit ?_
  refine CD.seq ?_
  refine CD.region ?_
  refine OD.still (wants_plain rfl) rfl (still_mv rfl ot) ?_
  refine OD.still (wants_plain rfl) rfl (still_as rfl ot) ?_
  refine OD.wk (Wk.as_ (n := 22) (l' := [(4, _)]) (S' := []) rfl rfl ⟨lk, trivial⟩) ?_
  refine OD.nil ?_
  refine CD.ret ?_
  refine ⟨.inr rfl, _, [], List.nil_sublist _, ret_one Tryd.results52 (res_tmp (Nat.le_of_ble_eq_true rfl) lk), ?_⟩
  rw [hres]; exact ⟨rfl, rfl⟩

set_option maxHeartbeats 4000000 in
set_option maxRecDepth 100000 in
theorem indexO_vc (ls : List OpL) (g : Nat) (caps : List D) (S : List Blk) (p : OpL → Bool) (hcall : ∀ args w, (callFunc g args).run Tryd.prog w = .ok (.enter g args) w) (hp : ∀ x ∈ ls, VC Tryd.prog G g (.agg (cO x) :: caps) S (fun r S' => r = .v (.bool (p x)) ∧ S' = S)) (hlen : ls.length ≤ 1000000) : VC Tryd.prog G 53 [.list 5 (ls.flatMap cO) ls.length, .clo (.func g) caps] S (fun r S' => r = .v (.int .i64 (idxG p ls)) ∧ S' = S) := by
 refine VC.body Tryd.func53 rfl Tryd.ntmps53 (Nat.le_of_ble_eq_true rfl) fun X0 w0 S00 => ?_
 unfold cO at hp
 refine CD.seq ?_
 refine CD.region ?_
 refine OD.still (wants_plain rfl) rfl (still_as rfl opd_const) ?_
 refine OD.wk (Wk.as_ (n := 19) (l' := [(0, _), (1, _)]) (S' := S) rfl (by first | rfl | simp [St.put]) ⟨lk, lk, trivial⟩) ?_
 refine OD.nil ?_
 refine CD.seq ?_
 refine CD.seq ?_
 refine CD.region ?_
 refine OD.still (wants_plain rfl) rfl (still_mv rfl ot) ?_
 refine OD.still (wants_plain rfl) rfl (still_r1 (mk := fun y => .call { callee := .builtin .len, args := #[y], argTypes := #[25] }) rfl ot (by first | exact len_list rfl Tryd.runUnderlying25 | exact len_row rfl Tryd.runUnderlying25)) ?_
 refine OD.still (wants_plain rfl) rfl (still_mv rfl opd_const) ?_
 refine OD.wk (Wk.as_ (n := 19) (l' := [(0, _), (1, _), (7, _), (8, _)]) (S' := S) rfl (by first | rfl | simp [St.put]) ⟨lk, lk, lk, lk, trivial⟩) ?_
 refine OD.nil ?_
 refine CD.block ?_
 refine CD.wk (Wk.asS (n := 19) (l' := [(0, .list 5 (ls.flatMap cO) ls.length), (1, .clo (.func g) caps), (7, .v (.int .i64 ls.length)), (8, .v (.int .i64 ((0) : Nat)))]) (S' := S) rfl (by repeat (first | exact List.Sublist.refl _ | apply List.Sublist.cons)) ⟨(by (repeat (first | exact look_hit | (apply look_at; focus (first | rfl | (simp; done) | (congr 2; omega))) | (apply look_miss; focus rfl))); done), (by (repeat (first | exact look_hit | (apply look_at; focus (first | rfl | (simp; done) | (congr 2; omega))) | (apply look_miss; focus rfl))); done), (by (repeat (first | exact look_hit | (apply look_at; focus (first | rfl | (simp; done) | (congr 2; omega))) | (apply look_miss; focus rfl))); done), (by (repeat (first | exact look_hit | (apply look_at; focus (first | rfl | (simp; done) | (congr 2; omega))) | (apply look_miss; focus rfl))); done), trivial⟩) (CD.loop (fun (k : Nat) y__ => (k ≤ ls.length) ∧ (∀ x ∈ ls.take k, p x = false) ∧ y__ = (⟨19, [(0, .list 5 (ls.flatMap cO) ls.length), (1, .clo (.func g) caps), (7, .v (.int .i64 ls.length)), (8, .v (.int .i64 (k : Nat)))], S⟩ : St)) (fun (k : Nat) => ls.length - k) 0 ⟨Nat.zero_le _, (by simp), rfl⟩ ?_)
 rintro k _ ⟨hk, h0, rfl⟩
 refine CD.seq ?_
 refine CD.region ?_
 refine OD.still (wants_plain rfl) rfl (still_bin rfl ot ot bin_lss) ?_
 refine OD.wk (Wk.as_ (n := 19) (l' := [(0, _), (1, _), (7, _), (8, _), (9, _)]) (S' := S) rfl (by first | rfl | simp [St.put]) ⟨lk, lk, lk, lk, lk, trivial⟩) ?_
 refine OD.nil ?_
 refine CD.seq ?_
 refine CD.cond ot (fun hc0 => ?_) (fun hc0 => ?_)
 ·have hc0' := hc0
  (try simp only [V.cnd, ne_eq] at hc0')
  refine CD.skip ?_
  refine CD.seq ?_
  refine CD.block ?_
  refine CD.seq ?_
  refine CD.region ?_
  refine OD.still (wants_plain rfl) rfl (still_mv rfl ot) ?_
  refine OD.still (wants_plain rfl) rfl (still_as rfl ot) ?_
  refine OD.wk (Wk.as_ (n := 19) (l' := [(0, _), (1, _), (5, _), (7, _), (8, _)]) (S' := S) rfl (by first | rfl | simp [St.put]) ⟨lk, lk, lk, lk, lk, trivial⟩) ?_
  refine OD.nil ?_
  refine CD.seq ?_
  refine CD.region ?_
  refine OD.still (wants_plain rfl) rfl (still_mv rfl ot) ?_
  refine OD.still (wants_plain rfl) rfl (still_mv rfl ot) ?_
  refine OD.still (wants_plain rfl) rfl (still_mv rfl ot) ?_
  refine OD.still (wants_plain rfl) rfl (still_r2 (mk := Op.indexAddr 25) rfl ot ot (by first | exact ix_list Tryd.runUnderlying25 Tryd.sizeOf40 rfl (by first | assumption | omega) | exact ix_list (j := Int.toNat _) Tryd.runUnderlying25 Tryd.sizeOf40 (Int.toNat_of_nonneg (by omega)).symm (by omega) | exact ix_row Tryd.runUnderlying25 Tryd.sizeOf40 rfl (by first | assumption | omega) | exact ix_row (j := Int.toNat _) Tryd.runUnderlying25 Tryd.sizeOf40 (Int.toNat_of_nonneg (by omega)).symm (by omega))) ?_
  refine OD.still (wants_plain rfl) rfl (still_r1 (mk := Op.load 40) rfl ot (by first | exact ld_fms cO_len Tryd.isAgg40 Tryd.sizeOf40 (by first | assumption | omega) | exact ld_is (ds := [_, _, _, _, _]) Tryd.isAgg40 Tryd.sizeOf40 rfl rfl)) ?_
  refine OD.callv (f := g) (args := [_]) (wants_plain rfl) rfl rfl (opd_tmp rfl lk) hcall (hp (ls[k]'(by omega)) (List.getElem_mem _)) rfl ⟨opd_tmp rfl lk, trivial⟩ (perm_all _) ?_; rintro _ S2 ⟨rfl, hS2⟩; rw [hS2]; clear hS2
  refine OD.wk (Wk.as_ (n := 19) (l' := [(0, _), (1, _), (5, _), (7, _), (8, _), (16, _)]) (S' := S) rfl (by first | rfl | simp [St.put]) ⟨lk, lk, lk, lk, lk, lk, trivial⟩) ?_
  refine OD.nil ?_
  refine CD.cond ot (fun hc1 => ?_) (fun hc1 => ?_)
  ·have hc1' := hc1
   (try simp only [V.cnd, ne_eq] at hc1')
   refine CD.seq ?_
   refine CD.region ?_
   refine OD.still (wants_plain rfl) rfl (still_mv rfl ot) ?_
   refine OD.still (wants_plain rfl) rfl (still_as rfl ot) ?_
   refine OD.wk (Wk.as_ (n := 19) (l' := [(4, _)]) (S' := S) rfl (by first | rfl | simp [St.put]) ⟨lk, trivial⟩) ?_
   refine OD.nil ?_
   refine CD.ret ?_
   refine ⟨.inr rfl, _, S, (by repeat (first | exact List.Sublist.refl _ | apply List.Sublist.cons)), ret_one Tryd.results53 (res_tmp (Nat.le_of_ble_eq_true rfl) lk), ?_⟩
   refine ⟨?_, rfl⟩; first | (rw [idxG_hit (by omega) h0 (by assumption)]) | (rw [idxG_none (by omega) h0])
  ·have hc1' := hc1
   (try simp only [V.cnd, ne_eq] at hc1')
   refine CD.skip ?_
   refine CD.region ?_
   refine OD.still (wants_plain rfl) rfl (still_bin rfl ot opd_const (bin_add (wrap_i64 (by omega) (by omega)))) ?_
   refine OD.still (wants_plain rfl) rfl (still_mv rfl ot) ?_
   refine OD.wk (Wk.as_ (n := 19) (l' := [(0, _), (1, _), (7, _), (8, _)]) (S' := S) rfl (by first | rfl | simp [St.put]) ⟨lk, lk, lk, lk, trivial⟩) ?_
   refine OD.nil ?_
   refine ⟨k + 1, ⟨19, [(0, .list 5 (ls.flatMap cO) ls.length), (1, .clo (.func g) caps), (7, .v (.int .i64 ls.length)), (8, .v (.int .i64 ((k + 1) : Nat)))], S⟩, ?_, Wk.asS (n := 19) rfl (by repeat (first | exact List.Sublist.refl _ | apply List.Sublist.cons)) ⟨(by (repeat (first | exact look_hit | (apply look_at; focus (first | rfl | (simp; done) | (congr 2; omega))) | (apply look_miss; focus rfl))); done), (by (repeat (first | exact look_hit | (apply look_at; focus (first | rfl | (simp; done) | (congr 2; omega))) | (apply look_miss; focus rfl))); done), (by (repeat (first | exact look_hit | (apply look_at; focus (first | rfl | (simp; done) | (congr 2; omega))) | (apply look_miss; focus rfl))); done), (by (repeat (first | exact look_hit | (apply look_at; focus (first | rfl | (simp; done) | (congr 2; omega))) | (apply look_miss; focus rfl))); done), trivial⟩, (by omega), (by rw [List.take_succ_eq_append_getElem (by omega)]; intro x hx; rcases List.mem_append.1 hx with hx | hx; exact h0 x hx; simp only [List.mem_singleton] at hx; subst hx; assumption), rfl⟩
   first | omega | (simp only []; omega)
 ·have hc0' := hc0
  (try simp only [V.cnd, ne_eq] at hc0')
  refine CD.exit ?_
  refine CD.seq ?_
  refine CD.region ?_
  refine OD.still (wants_plain rfl) rfl (still_as rfl opd_const) ?_
  refine OD.wk (Wk.as_ (n := 19) (l' := [(4, _)]) (S' := S) rfl (by first | rfl | simp [St.put]) ⟨lk, trivial⟩) ?_
  refine OD.nil ?_
  refine CD.ret ?_
  refine ⟨.inr rfl, _, S, (by repeat (first | exact List.Sublist.refl _ | apply List.Sublist.cons)), ret_one Tryd.results53 (res_tmp (Nat.le_of_ble_eq_true rfl) lk), ?_⟩
  refine ⟨?_, rfl⟩; first | (rw [idxG_hit (by omega) h0 (by assumption)]) | (rw [idxG_none (by omega) h0])

set_option maxHeartbeats 4000000 in
set_option maxRecDepth 100000 in
theorem narcl1_vc (o : OpL) (nm : ByteArray) (b : Nat) : VC Tryd.prog G 54 [.agg (cO o), .v (.pointer (some ⟨b, 0, none⟩))] [⟨b, 9, 1, [.v (.string nm)]⟩] (fun r S => r = .v (.bool (keyCol nm o)) ∧ S = [⟨b, 9, 1, [.v (.string nm)]⟩]) := by
 refine VC.body Tryd.func54 rfl Tryd.ntmps54 (Nat.le_of_ble_eq_true rfl) fun X0 w0 S00 => ?_
 unfold cO keyCol
 refine CD.seq ?_
 refine CD.region ?_
 refine OD.box (ds := [_, _, _, _, _]) (wants_plain rfl) rfl rfl ot rfl rfl (fun b2 => ?_)
 refine OD.still (wants_plain rfl) rfl (still_as rfl opd_const) ?_
 refine OD.wk (Wk.as_ (n := 13) (l' := [(1, _), (2, _)]) (S' := [⟨b2, 40, 5, [_, _, _, _, _]⟩, ⟨_, _, _, [_]⟩]) rfl rfl ⟨lk, lk, trivial⟩) ?_
 refine OD.nil ?_
 refine CD.seq ?_
 refine CD.region ?_
 refine OD.still (wants_plain rfl) rfl (still_r1 (mk := fun y => Op.fieldAddr 40 y 0) rfl ot (by first | exact fa_ptr (off := 0) Tryd.runUnderlying40 rfl Tryd.sizeOf3 rfl | exact fa_iptr (off := 0) Tryd.runUnderlying40 rfl Tryd.sizeOf3 rfl)) ?_
 refine OD.still (wants_plain rfl) rfl (still_r1 (mk := Op.load 3) rfl ot (by first | exact ld_blk (k := 0) rfl rfl Tryd.isAgg3 rfl | exact ld_i Tryd.isAgg3 rfl)) ?_
 refine OD.still (wants_plain rfl) rfl (still_bin rfl ot opd_const bin_eql) ?_
 refine OD.still (wants_plain rfl) rfl (still_mv rfl ot) ?_
 refine OD.split (t := 7) lk (fun hg7 => ?_) (fun hg7 => ?_)
 ·have hg7' := hg7; (try simp only [V.cnd, ne_eq] at hg7')
  refine OD.still (wants_T rfl rfl rfl lk (by first | rfl | assumption)) rfl (still_r1 (mk := fun y => Op.fieldAddr 40 y 2) rfl ot (by first | exact fa_ptr (off := 4) Tryd.runUnderlying40 rfl Tryd.sizeOf9 rfl | exact fa_iptr (off := 4) Tryd.runUnderlying40 rfl Tryd.sizeOf9 rfl)) ?_
  refine OD.still (wants_T rfl rfl rfl lk (by first | rfl | assumption)) rfl (still_r1 (mk := Op.load 9) rfl ot (by first | exact ld_blk (k := 0) rfl rfl Tryd.isAgg9 rfl | exact ld_i Tryd.isAgg9 rfl)) ?_
  refine OD.still (wants_T rfl rfl rfl lk (by first | rfl | assumption)) rfl (still_r1 (mk := Op.load 9) rfl ot (by first | exact ld_blk (k := 1) rfl rfl Tryd.isAgg9 rfl | exact ld_i Tryd.isAgg9 rfl)) ?_
  refine OD.still (wants_T rfl rfl rfl lk (by first | rfl | assumption)) rfl (still_bin rfl ot ot bin_seql) ?_
  refine OD.still (wants_plain rfl) rfl (still_pickT rfl ot (by first | rfl | assumption) ot) ?_
  refine OD.still (wants_plain rfl) rfl (still_as rfl ot) ?_
  refine OD.wk (Wk.as_ (n := 13) (l' := [(3, _)]) (S' := [⟨b2, 40, 5, [_, _, _, _, _]⟩, ⟨_, _, _, [_]⟩]) rfl rfl ⟨lk, trivial⟩) ?_
  refine OD.nil ?_
  refine CD.ret ?_
  refine ⟨.inr rfl, _, [⟨b, 9, 1, [.v (.string nm)]⟩], (by repeat (first | exact List.Sublist.refl _ | apply List.Sublist.cons)), ret_one Tryd.results54 (res_tmp (Nat.le_of_ble_eq_true rfl) lk), ?_⟩
  first | exact ⟨rfl, rfl⟩ | (refine ⟨vb ?_, rfl⟩; simp_all)
 ·have hg7' := hg7; (try simp only [V.cnd, ne_eq] at hg7')
  refine OD.skip (wants_F rfl rfl rfl lk (by first | rfl | assumption)) rfl ?_
  refine OD.skip (wants_F rfl rfl rfl lk (by first | rfl | assumption)) rfl ?_
  refine OD.skip (wants_F rfl rfl rfl lk (by first | rfl | assumption)) rfl ?_
  refine OD.skip (wants_F rfl rfl rfl lk (by first | rfl | assumption)) rfl ?_
  refine OD.still (wants_plain rfl) rfl (still_pickF rfl ot (by first | rfl | assumption) opd_const) ?_
  refine OD.still (wants_plain rfl) rfl (still_as rfl ot) ?_
  refine OD.wk (Wk.as_ (n := 13) (l' := [(3, _)]) (S' := [⟨b2, 40, 5, [_, _, _, _, _]⟩, ⟨_, _, _, [_]⟩]) rfl rfl ⟨lk, trivial⟩) ?_
  refine OD.nil ?_
  refine CD.ret ?_
  refine ⟨.inr rfl, _, [⟨b, 9, 1, [.v (.string nm)]⟩], (by repeat (first | exact List.Sublist.refl _ | apply List.Sublist.cons)), ret_one Tryd.results54 (res_tmp (Nat.le_of_ble_eq_true rfl) lk), ?_⟩
  first | exact ⟨rfl, rfl⟩ | (refine ⟨vb ?_, rfl⟩; simp_all)

set_option maxHeartbeats 4000000 in
set_option maxRecDepth 100000 in
theorem narcl2_vp (o : OpL) : VC Tryd.prog G 55 [.agg (cO o)] [] (fun r S => r = .v (.bool (litNN o)) ∧ S = []) := by
 refine VC.body Tryd.func55 rfl Tryd.ntmps55 (Nat.le_of_ble_eq_true rfl) fun X0 w0 S00 => ?_
 unfold cO litNN
 refine CD.seq ?_
 refine CD.region ?_
 refine OD.box (ds := [_, _, _, _, _]) (wants_plain rfl) rfl rfl ot rfl rfl (fun b1 => ?_)
 refine OD.still (wants_plain rfl) rfl (still_as rfl opd_const) ?_
 refine OD.wk (Wk.as_ (n := 12) (l' := [(1, _)]) (S' := [⟨b1, 40, 5, [_, _, _, _, _]⟩]) rfl rfl ⟨lk, trivial⟩) ?_
 refine OD.nil ?_
 refine CD.seq ?_
 refine CD.region ?_
 refine OD.still (wants_plain rfl) rfl (still_r1 (mk := fun y => Op.fieldAddr 40 y 0) rfl ot (by first | exact fa_ptr (off := 0) Tryd.runUnderlying40 rfl Tryd.sizeOf3 rfl | exact fa_iptr (off := 0) Tryd.runUnderlying40 rfl Tryd.sizeOf3 rfl)) ?_
 refine OD.still (wants_plain rfl) rfl (still_r1 (mk := Op.load 3) rfl ot (by first | exact ld_blk (k := 0) rfl rfl Tryd.isAgg3 rfl | exact ld_i Tryd.isAgg3 rfl)) ?_
 refine OD.still (wants_plain rfl) rfl (still_bin rfl ot opd_const bin_eql) ?_
 refine OD.still (wants_plain rfl) rfl (still_mv rfl ot) ?_
 refine OD.split (t := 6) lk (fun hg6 => ?_) (fun hg6 => ?_)
 ·have hg6' := hg6; (try simp only [V.cnd, ne_eq] at hg6')
  refine OD.still (wants_T rfl rfl rfl lk (by first | rfl | assumption)) rfl (still_r1 (mk := fun y => Op.fieldAddr 40 y 1) rfl ot (by first | exact fa_ptr (off := 1) Tryd.runUnderlying40 rfl Tryd.sizeOf33 rfl | exact fa_iptr (off := 1) Tryd.runUnderlying40 rfl Tryd.sizeOf33 rfl)) ?_
  refine OD.still (wants_T rfl rfl rfl lk (by first | rfl | assumption)) rfl (still_r1 (mk := fun y => Op.fieldAddr 33 y 0) rfl ot (by first | exact fa_ptr (off := 0) Tryd.runUnderlying33 rfl Tryd.sizeOf3 rfl | exact fa_iptr (off := 0) Tryd.runUnderlying33 rfl Tryd.sizeOf3 rfl)) ?_
  refine OD.still (wants_T rfl rfl rfl lk (by first | rfl | assumption)) rfl (still_r1 (mk := Op.load 3) rfl ot (by first | exact ld_blk (k := 0) rfl rfl Tryd.isAgg3 rfl | exact ld_i Tryd.isAgg3 rfl)) ?_
  refine OD.still (wants_T rfl rfl rfl lk (by first | rfl | assumption)) rfl (still_bin rfl ot opd_const bin_neq) ?_
  refine OD.still (wants_plain rfl) rfl (still_pickT rfl ot (by first | rfl | assumption) ot) ?_
  refine OD.still (wants_plain rfl) rfl (still_as rfl ot) ?_
  refine OD.wk (Wk.as_ (n := 12) (l' := [(2, _)]) (S' := [⟨b1, 40, 5, [_, _, _, _, _]⟩]) rfl rfl ⟨lk, trivial⟩) ?_
  refine OD.nil ?_
  refine CD.ret ?_
  refine ⟨.inr rfl, _, [], List.nil_sublist _, ret_one Tryd.results55 (res_tmp (Nat.le_of_ble_eq_true rfl) lk), ?_⟩
  first | exact ⟨rfl, rfl⟩ | (refine ⟨vb ?_, rfl⟩; simp_all; done) | (refine ⟨vb ?_, rfl⟩; simp_all; rfl)
 ·have hg6' := hg6; (try simp only [V.cnd, ne_eq] at hg6')
  refine OD.skip (wants_F rfl rfl rfl lk (by first | rfl | assumption)) rfl ?_
  refine OD.skip (wants_F rfl rfl rfl lk (by first | rfl | assumption)) rfl ?_
  refine OD.skip (wants_F rfl rfl rfl lk (by first | rfl | assumption)) rfl ?_
  refine OD.skip (wants_F rfl rfl rfl lk (by first | rfl | assumption)) rfl ?_
  refine OD.still (wants_plain rfl) rfl (still_pickF rfl ot (by first | rfl | assumption) opd_const) ?_
  refine OD.still (wants_plain rfl) rfl (still_as rfl ot) ?_
  refine OD.wk (Wk.as_ (n := 12) (l' := [(2, _)]) (S' := [⟨b1, 40, 5, [_, _, _, _, _]⟩]) rfl rfl ⟨lk, trivial⟩) ?_
  refine OD.nil ?_
  refine CD.ret ?_
  refine ⟨.inr rfl, _, [], List.nil_sublist _, ret_one Tryd.results55 (res_tmp (Nat.le_of_ble_eq_true rfl) lk), ?_⟩
  first | exact ⟨rfl, rfl⟩ | (refine ⟨vb ?_, rfl⟩; simp_all; done) | (refine ⟨vb ?_, rfl⟩; simp_all; rfl)

set_option maxHeartbeats 4000000 in
set_option maxRecDepth 100000 in
theorem bcmp_vp (a b : List UInt8) : VP Tryd.prog G 56 [.list 1 (a.flatMap cB) a.length, .list 1 (b.flatMap cB) b.length] (.v (.int .i64 (compareBytes a b))) := by
 refine VC.body Tryd.func56 rfl Tryd.ntmps56 (Nat.le_of_ble_eq_true rfl) fun X0 w0 S00 => ?_
 refine CD.seq ?_
 refine CD.region ?_
 refine OD.still (wants_plain rfl) rfl (still_as rfl opd_const) ?_
 refine OD.wk (Wk.as_ (n := 8) (l' := [(0, _), (1, _)]) (S' := []) rfl rfl ⟨lk, lk, trivial⟩) ?_
 refine OD.nil ?_
 refine CD.seq ?_
 refine CD.region ?_
 refine OD.still (wants_plain rfl) rfl (still_mv rfl ot) ?_
 refine OD.still (wants_plain rfl) rfl (still_mv rfl ot) ?_
 refine OD.still (wants_plain rfl) rfl (still_bytecmp rfl ot ot Tryd.func69 (by kernel_rfl) (by kernel_rfl) (by kernel_rfl) (by kernel_rfl)) ?_
 refine OD.still (wants_plain rfl) rfl (still_as rfl ot) ?_
 refine OD.wk (Wk.as_ (n := 8) (l' := [(4, _)]) (S' := []) rfl rfl ⟨lk, trivial⟩) ?_
 refine OD.nil ?_
 refine CD.ret ?_
 refine ⟨.inr rfl, _, [], List.nil_sublist _, ret_one Tryd.results56 (res_tmp (Nat.le_of_ble_eq_true rfl) lk), ?_⟩
 exact ⟨rfl, rfl⟩

theorem info5_Ex8 : (Tryd.prog.info? 5).map (fun i => (i.zero, i.size, i.bytes)) = some (some (.int .u8 0), 1, 1) := by kernel_rfl

set_option maxHeartbeats 4000000 in
set_option maxRecDepth 100000 in
theorem clone_vp (a : List UInt8) (ha : a.length ≤ 1000) : VP Tryd.prog G 57 [.list 1 (a.flatMap cB) a.length] (.list 1 (a.flatMap cB) a.length) := by
 refine VC.body Tryd.func57 rfl Tryd.ntmps57 (Nat.le_of_ble_eq_true rfl) fun X0 w0 S00 => ?_
 have hmx : maxLen = 9223372036854775807 := rfl
 refine CD.seq ?_
 refine CD.region ?_
 refine OD.still (wants_plain rfl) rfl (still_as rfl opd_const) ?_
 refine OD.wk (Wk.as_ (n := 8) (l' := [(0, _)]) (S' := []) rfl rfl ⟨lk, trivial⟩) ?_
 refine OD.nil ?_
 refine CD.seq ?_
 refine CD.seq ?_
 refine CD.region ?_
 refine OD.still (wants_plain rfl) rfl (still_mv rfl ot) ?_
 refine OD.eqNil (wants_plain rfl) rfl rfl ot opd_const Tryd.underlying47 (fun bn hbn => ?_)
 refine OD.wk (Wk.as_ (n := 8) (l' := [(0, _), (4, _)]) (S' := []) rfl rfl ⟨lk, lk, trivial⟩) ?_
 refine OD.nil ?_
 refine CD.cond ot (fun hc0 => ?_) (fun hc0 => ?_)
 ·have hc0' := hc0
  (try simp only [V.cnd, ne_eq] at hc0')
  obtain ⟨hz, _⟩ := hbn hc0
  obtain rfl := List.length_eq_zero_iff.1 hz
  refine CD.seq ?_
  refine CD.region ?_
  refine OD.still (wants_plain rfl) rfl (still_as rfl opd_const) ?_
  refine OD.wk (Wk.as_ (n := 8) (l' := [(2, _)]) (S' := []) rfl rfl ⟨lk, trivial⟩) ?_
  refine OD.nil ?_
  refine CD.wk (Wk.giveNil (t := 2) (sz := 1) lk) ?_
  refine CD.ret ?_
  refine ⟨.inr rfl, _, [], List.nil_sublist _, ret_one Tryd.results57 (res_tmp (Nat.le_of_ble_eq_true rfl) lk), ?_⟩
  exact ⟨rfl, rfl⟩
 ·have hc0' := hc0
  (try simp only [V.cnd, ne_eq] at hc0')
  refine CD.skip ?_
  refine CD.seq ?_
  refine CD.region ?_
  refine OD.bldS0 (wants_plain rfl) rfl rfl Tryd.runUnderlying47 Tryd.sizeOf5 (fun b5 => ?_)
  refine OD.still (wants_plain rfl) rfl (still_mv rfl ot) ?_
  refine OD.appendAny (ls := ([] : List UInt8)) (new := a) (Sq := [⟨b5, 5, 0 * 1, []⟩]) cB_len cB_one (wants_plain rfl) rfl rfl Tryd.underlying47 info5_Ex8 rfl (by decide) Tryd.runUnderlying47 Tryd.sizeOf5 ot (.inr ⟨b5, rfl, Nat.le_refl _, Nat.zero_le _, rfl⟩) (perm_r11 (A := [])) ot (by simp; omega) (by simp; omega) (fun ad7 cp7 S7 ho7 => ?_)
  refine OD.perm (perm_q11 (A := [])) ?_
  refine OD.still (wants_plain rfl) rfl (still_as rfl ot) ?_
  refine OD.wk (Wk.as_ (n := 8) (l' := [(2, _)]) (S' := (S7)) rfl rfl ⟨lk, trivial⟩) ?_
  refine OD.nil ?_
  refine CD.giveL (t := 2) (Sq := S7) lk ho7 (fm_len cB_len _) (perm_r11 (A := [])) ?_
  refine CD.ret ?_
  refine ⟨.inr rfl, _, [], List.nil_sublist _, ret_one Tryd.results57 (res_tmp (Nat.le_of_ble_eq_true rfl) lk), ?_⟩
  exact ⟨rfl, rfl⟩

theorem enc_len (l : List Vl) : (encR l).1.length ≤ 100 := by
 unfold encR
 split
 ·simp
 ·split
  ·simp
  ·split
   ·simp
   ·simpa using by omega
theorem low_len {k : List UInt8} {b : BdL} (hk : k.length ≤ 100) (h1 : b.1.length ≤ 100) (h2 : b.2.length ≤ 100) : (lowF k b).1.length ≤ 100 ∧ (lowF k b).2.length ≤ 100 := by unfold lowF; split <;> exact ⟨by assumption, by assumption⟩
theorem high_len {k : List UInt8} {b : BdL} (hk : k.length ≤ 100) (h1 : b.1.length ≤ 100) (h2 : b.2.length ≤ 100) : (highF k b).1.length ≤ 100 ∧ (highF k b).2.length ≤ 100 := by unfold highF; split <;> exact ⟨by assumption, by assumption⟩
theorem cut_len {kc : Int} {eq not : Bool} {k : List UInt8} {b : BdL} (hk : k.length ≤ 100) (h1 : b.1.length ≤ 100) (h2 : b.2.length ≤ 100) : (cutB kc eq not k b).1.length ≤ 100 ∧ (cutB kc eq not k b).2.length ≤ 100 := by
 unfold cutB
 have q1 := low_len hk h1 h2
 have q2 := high_len hk h1 h2
 have q3 := high_len hk q1.1 q1.2
 cases (eq || (kc == 0) != not) <;> cases (eq || (kc == 0) == not)
 ·exact ⟨h1, h2⟩
 ·exact q1
 ·exact q2
 ·exact q3
theorem leaf_len {key : ByteArray} {ops : List OpL} {not : Bool} {b : BdL} (h1 : b.1.length ≤ 100) (h2 : b.2.length ≤ 100) : (leafB key ops not b).1.length ≤ 100 ∧ (leafB key ops not b).2.length ≤ 100 := by
 unfold leafB
 split
 ·exact ⟨h1, h2⟩
 ·split
  ·exact ⟨h1, h2⟩
  ·exact cut_len (enc_len _) h1 h2
theorem nar_len (key : ByteArray) : ∀ (f : Nat) (ops : List OpL) (b : BdL), b.1.length ≤ 100 → b.2.length ≤ 100 → (narF key f ops b).1.length ≤ 100 ∧ (narF key f ops b).2.length ≤ 100
 | 0, _, b, h1, h2 => ⟨h1, h2⟩
 | f + 1, ops, b, h1, h2 => by
  rw [narF]
  split
  ·have q := nar_len key f (ops.take (begF ops (ops.length - 1) 1)) b h1 h2
   exact nar_len key f _ _ q.1 q.2
  ·split
   ·exact leaf_len h1 h2
   ·exact leaf_len h1 h2
theorem runs_pos {ops : List OpL} (h : runs 0 ops = some 1) : 1 ≤ ops.length := by
 cases ops with
 | nil => rw [runs] at h; cases h
 | cons => simp
/-- What stands behind the last op of an expression. -/
theorem runs_end {ops : List OpL} (h : runs 0 ops = some 1) : ∃ (hn : ops.length - 1 < ops.length), runs 0 (ops.take (ops.length - 1)) = some (popsF ops[ops.length - 1].k) := by
  have hp := runs_pos h
  have hlt : ops.length - 1 < ops.length := by omega
  refine ⟨hlt, ?_⟩
  obtain ⟨h', e1, e2, e3⟩ := runs_last hlt (by rw [show ops.length - 1 + 1 = ops.length by omega, List.take_length]; exact h)
  rw [e1]; congr 1; omega
theorem and_mid {ops : List OpL} (h : runs 0 ops = some 1) (hk : opK ops (ops.length - 1) = 3) : begF ops (ops.length - 1) 1 < ops.length - 1 ∧ runs 0 (ops.take (begF ops (ops.length - 1) 1)) = some 1 ∧ runs 0 ((ops.take (ops.length - 1)).drop (begF ops (ops.length - 1) 1)) = some 1 ∧ runs 0 (ops.take (ops.length - 1)) = some 2 := by
 obtain ⟨hn, e⟩ := runs_end h
 rw [opK_at hn] at hk
 rw [hk] at e
 obtain ⟨q1, q2, q3⟩ := beg_spec (ops.length - 1) 1 2 (by omega) e (by decide) (by decide)
 exact ⟨q1, q2, q3 0 (by decide), e⟩

variable {key : ByteArray}
theorem op_val {ls : List OpL} {j : Nat} (h : j < ls.length) : ((ls.flatMap cO).drop (j * 5 + 1)).take 3 = cV ls[j].v := by
 rw [← List.drop_drop, fm_drop cO_len, List.drop_eq_getElem_cons h, List.flatMap_cons]; rfl

set_option maxHeartbeats 4000000 in
set_option maxRecDepth 100000 in
theorem nar_step (hG : (1, [Value.int .i64 m]) ∈ G) (key : ByteArray) (f : Nat) (hf : f ≤ 40) (IH : ∀ (ops : List OpL) (lo hi : List UInt8), ops.length ≤ f → runs 0 ops = some 1 → (∀ o ∈ ops, o.v.Ok) → lo.length ≤ 100 → hi.length ≤ 100 → ∀ b0, VC Tryd.prog G 36 [.v (.pointer (some ⟨b0, 0, none⟩)), .v (.string key), .list 5 (ops.flatMap cO) ops.length] [⟨b0, 74, 2, [.list 1 (lo.flatMap cB) lo.length, .list 1 (hi.flatMap cB) hi.length]⟩] (fun r S => r = .tup [] ∧ S = [⟨b0, 74, 2, [.list 1 ((narF key f ops (lo, hi)).1.flatMap cB) (narF key f ops (lo, hi)).1.length, .list 1 ((narF key f ops (lo, hi)).2.flatMap cB) (narF key f ops (lo, hi)).2.length]⟩])) (ops : List OpL) (lo hi : List UInt8) (hl : ops.length ≤ f + 1) (h40 : ops.length ≤ 40) (hr : runs 0 ops = some 1) (hok : ∀ o ∈ ops, o.v.Ok) (hlo : lo.length ≤ 100) (hhi : hi.length ≤ 100) (b0 : Nat) : VC Tryd.prog G 36 [.v (.pointer (some ⟨b0, 0, none⟩)), .v (.string key), .list 5 (ops.flatMap cO) ops.length] [⟨b0, 74, 2, [.list 1 (lo.flatMap cB) lo.length, .list 1 (hi.flatMap cB) hi.length]⟩] (fun r S => r = .tup [] ∧ S = [⟨b0, 74, 2, [.list 1 ((narF key (f + 1) ops (lo, hi)).1.flatMap cB) (narF key (f + 1) ops (lo, hi)).1.length, .list 1 ((narF key (f + 1) ops (lo, hi)).2.flatMap cB) (narF key (f + 1) ops (lo, hi)).2.length]⟩]) := by
 refine VC.body Tryd.func36 rfl Tryd.ntmps36 (Nat.le_of_ble_eq_true rfl) fun X0 w0 S00 => ?_
 have hp0 := runs_pos hr
 obtain ⟨hn1, hre⟩ := runs_end hr
 have hoK := opK_at hn1
 have hmx : maxLen = 9223372036854775807 := rfl
 have hpb := pops_bd ops[ops.length - 1].k
 refine CD.seq ?_
 refine CD.region ?_
 refine OD.box (ds := [_]) (wants_plain rfl) rfl rfl ot rfl rfl (fun b4 => ?_)
 refine OD.wk (Wk.as_ (n := 155) (l' := [(0, _), (2, _), (4, _)]) (S' := [⟨b4, 9, 1, [_]⟩, ⟨b0, 74, 2, [_, _]⟩]) rfl rfl ⟨lk, lk, lk, trivial⟩) ?_
 refine OD.nil ?_
 refine CD.seq ?_
 refine CD.region ?_
 refine OD.still (wants_plain rfl) rfl (still_mv rfl ot) ?_
 refine OD.still (wants_plain rfl) rfl (still_r1 (mk := fun y => .call { callee := .builtin .len, args := #[y], argTypes := #[25] }) rfl ot (by first | exact len_list rfl Tryd.runUnderlying25 | exact len_row rfl Tryd.runUnderlying25)) ?_
 refine OD.still (wants_plain rfl) rfl (still_bin rfl ot opd_const (bin_sub (r := ((ops.length - 1 : Nat) : Int)) (by rw [show ((ops.length : Nat) : Int) - 1 = ((ops.length - 1 : Nat) : Int) by omega]; exact wrap_i64 (by omega) (by omega)))) ?_
 refine OD.still (wants_plain rfl) rfl (still_as rfl ot) ?_
 refine OD.wk (Wk.as_ (n := 155) (l' := [(0, _), (2, _), (4, _), (6, _)]) (S' := [⟨b4, 9, 1, [_]⟩, ⟨b0, 74, 2, [_, _]⟩]) rfl rfl ⟨lk, lk, lk, lk, trivial⟩) ?_
 refine OD.nil ?_
 refine CD.seq ?_
 refine CD.seq ?_
 refine CD.region ?_
 refine OD.still (wants_plain rfl) rfl (still_mv rfl ot) ?_
 refine OD.still (wants_plain rfl) rfl (still_mv rfl ot) ?_
 refine OD.still (wants_plain rfl) rfl (still_r2 (mk := Op.indexAddr 25) rfl ot ot (by first | exact ix_list Tryd.runUnderlying25 Tryd.sizeOf40 (j := (ops.length - 1)) rfl (by omega) | exact ix_row Tryd.runUnderlying25 Tryd.sizeOf40 (j := (ops.length - 1)) rfl (by omega))) ?_
 refine OD.still (wants_plain rfl) rfl (still_r1 (mk := fun y => Op.fieldAddr 40 y 0) rfl ot (by first | exact fa_ptr (off := 0) Tryd.runUnderlying40 rfl Tryd.sizeOf3 rfl | exact fa_iptr (off := 0) Tryd.runUnderlying40 rfl Tryd.sizeOf3 rfl)) ?_
 refine OD.still (wants_plain rfl) rfl (still_r1 (mk := Op.load 3) rfl ot (by first | exact ld_blk (k := 0) rfl rfl Tryd.isAgg3 rfl | exact ld_blk (k := 1) rfl rfl Tryd.isAgg3 rfl | exact ld_fm cO_len Tryd.isAgg3 (by first | assumption | omega) rfl | exact ld_fm0 cO_len Tryd.isAgg3 (by first | assumption | omega) rfl | exact ld_row (k := 0) cO_len rfl rfl rfl Tryd.isAgg3 (by first | assumption | omega) rfl | exact ld_row0 (k := 0) cO_len rfl rfl rfl Tryd.isAgg3 (by first | assumption | omega) rfl | exact ld_row (k := 1) cO_len rfl rfl rfl Tryd.isAgg3 (by first | assumption | omega) rfl | exact ld_row0 (k := 1) cO_len rfl rfl rfl Tryd.isAgg3 (by first | assumption | omega) rfl | exact ld_i Tryd.isAgg3 rfl)) ?_
 refine OD.still (wants_plain rfl) rfl (still_bin rfl ot opd_const bin_eql) ?_
 refine OD.wk (Wk.as_ (n := 155) (l' := [(0, _), (2, _), (4, _), (6, _), (22, _)]) (S' := [⟨b4, 9, 1, [_]⟩, ⟨b0, 74, 2, [_, _]⟩]) rfl rfl ⟨lk, lk, lk, lk, lk, trivial⟩) ?_
 refine OD.nil ?_
 refine CD.cond ot (fun hc0 => ?_) (fun hc0 => ?_)
 ·have hc0' := hc0
  (try simp only [V.cnd, ne_eq] at hc0')
  have hk3 : opK ops (ops.length - 1) = 3 := by rw [hoK]; omega
  obtain ⟨hm1, hm2, hm3, hm4⟩ := and_mid hr hk3
  have hres : (narF key (f + 1) ops (lo, hi)) = narF key f ((ops.take (ops.length - 1)).drop (begF ops (ops.length - 1) 1)) (narF key f (ops.take (begF ops (ops.length - 1) 1)) (lo, hi)) := by rw [narF, if_pos hk3]
  have hq1 := nar_len key f (ops.take (begF ops (ops.length - 1) 1)) (lo, hi) hlo hhi
  refine CD.seq ?_
  refine CD.region ?_
  refine OD.still (wants_plain rfl) rfl (still_mv rfl ot) ?_
  refine OD.still (wants_plain rfl) rfl (still_mv rfl ot) ?_
  refine OD.callP (wants_plain rfl) rfl rfl rfl Tryd.call52 (begins_vp ops (by omega) (ops.length - 1) (by omega) 2 hm4 (by decide)) ⟨ot, ot, trivial⟩ ?_
  refine OD.still (wants_plain rfl) rfl (still_as rfl ot) ?_
  refine OD.wk (Wk.as_ (n := 155) (l' := [(0, _), (2, _), (4, _), (6, _), (7, _)]) (S' := [⟨b4, 9, 1, [_]⟩, ⟨b0, 74, 2, [_, _]⟩]) rfl rfl ⟨lk, lk, lk, lk, lk, trivial⟩) ?_
  refine OD.nil ?_
  refine CD.seq ?_
  refine CD.draw (bks (List.eraseIdx _ 1)) (by kernel_rfl) (fun _ h => (List.Sublist.map _ (List.eraseIdx_sublist _ 1)).subset h) ?_
  refine AD0.take (i := 0) rfl (by kernel_rfl) (by kernel_rfl) (by kernel_rfl) (by repeat (first | exact NP.body | apply NP.then | apply NP.cut | apply NP.inBlock | apply NP.round)) (wants_plain rfl) rfl (still_mv rfl ot) (by exact trivial) ?_
  refine AD0.take (i := 1) rfl (by kernel_rfl) (by kernel_rfl) (by kernel_rfl) (by repeat (first | exact NP.body | apply NP.then | apply NP.cut | apply NP.inBlock | apply NP.round)) (wants_plain rfl) rfl (still_r1 (mk := Op.load 9) rfl ot (by first | exact ld_blk (k := 0) rfl rfl Tryd.isAgg9 rfl | exact ld_fm cO_len Tryd.isAgg9 (by first | assumption | omega) rfl | exact ld_fm0 cO_len Tryd.isAgg9 (by first | assumption | omega) rfl | exact ld_row (k := 0) cO_len rfl rfl rfl Tryd.isAgg9 (by first | assumption | omega) rfl | exact ld_row0 (k := 0) cO_len rfl rfl rfl Tryd.isAgg9 (by first | assumption | omega) rfl | exact ld_row (k := 1) cO_len rfl rfl rfl Tryd.isAgg9 (by first | assumption | omega) rfl | exact ld_row0 (k := 1) cO_len rfl rfl rfl Tryd.isAgg9 (by first | assumption | omega) rfl | exact ld_i Tryd.isAgg9 rfl)) (by first | exact trivial | exact safe_blk (k0 := 0) rfl rfl) ?_
  refine AD0.take (i := 2) rfl (by kernel_rfl) (by kernel_rfl) (by kernel_rfl) (by repeat (first | exact NP.body | apply NP.then | apply NP.cut | apply NP.inBlock | apply NP.round)) (wants_plain rfl) rfl (still_mv rfl ot) (by exact trivial) ?_
  refine AD0.take (i := 3) rfl (by kernel_rfl) (by kernel_rfl) (by kernel_rfl) (by repeat (first | exact NP.body | apply NP.then | apply NP.cut | apply NP.inBlock | apply NP.round)) (wants_plain rfl) rfl (still_mv rfl ot) (by exact trivial) ?_
  refine AD0.take (i := 4) rfl (by kernel_rfl) (by kernel_rfl) (by kernel_rfl) (by repeat (first | exact NP.body | apply NP.then | apply NP.cut | apply NP.inBlock | apply NP.round)) (wants_plain rfl) rfl (still_rs (l := 0) rfl ot trivial ⟨_, ot⟩ (by first | exact sl_head cO_len (fun h => by cases h) Tryd.runUnderlying25 Tryd.sizeOf40 (by omega) | exact sl_row (fun h => by cases h) Tryd.runUnderlying25 Tryd.sizeOf40 (by omega) | exact sl_list (fun _ => rfl) (fun h => by cases h) Tryd.runUnderlying25 Tryd.sizeOf40 (by omega) (by omega))) (by exact trivial) ?_
  refine AD0.later rfl ?_
  refine AD.one (i := 5) (by kernel_rfl) ?_
  refine AStep.call rfl (wants_plain rfl) rfl rfl rfl Tryd.call36 (IH (ops.take (begF ops (ops.length - 1) 1)) (lo) (hi) (by simp only [List.length_drop, List.length_take]; omega) hm2 (fun o ho => hok o (List.mem_of_mem_take ho)) (by omega) (by omega) b0) ⟨ot, ot, ot, trivial⟩ (perm_one (k := 1) rfl) (by intro b hb; simp [bks, St.put] at hb ⊢; try first | exact hb | simp [hb] | (rcases hb with hb | hb <;> simp [hb]) | (rcases hb with hb | hb | hb <;> simp [hb])) ?_
  rintro _ _ ⟨rfl, rfl⟩
  refine AD.wk (y := ⟨155, [(0, _), (2, _), (4, _), (6, _), (7, _)], [⟨b0, 74, 2, [_, _]⟩, ⟨b4, 9, 1, [_]⟩]⟩) (Wk.as_ rfl rfl ⟨lk, lk, lk, lk, lk, trivial⟩) rfl ?_
  refine AD.done (by kernel_rfl) ?_
  refine CD.seq ?_
  refine CD.draw (bks (List.eraseIdx _ 0)) (by kernel_rfl) (fun _ h => (List.Sublist.map _ (List.eraseIdx_sublist _ 0)).subset h) ?_
  refine AD0.take (i := 0) rfl (by kernel_rfl) (by kernel_rfl) (by kernel_rfl) (by repeat (first | exact NP.body | apply NP.then | apply NP.cut | apply NP.inBlock | apply NP.round)) (wants_plain rfl) rfl (still_mv rfl ot) (by exact trivial) ?_
  refine AD0.take (i := 1) rfl (by kernel_rfl) (by kernel_rfl) (by kernel_rfl) (by repeat (first | exact NP.body | apply NP.then | apply NP.cut | apply NP.inBlock | apply NP.round)) (wants_plain rfl) rfl (still_r1 (mk := Op.load 9) rfl ot (by first | exact ld_blk (k := 1) rfl rfl Tryd.isAgg9 rfl | exact ld_fm cO_len Tryd.isAgg9 (by first | assumption | omega) rfl | exact ld_fm0 cO_len Tryd.isAgg9 (by first | assumption | omega) rfl | exact ld_row (k := 0) cO_len rfl rfl rfl Tryd.isAgg9 (by first | assumption | omega) rfl | exact ld_row0 (k := 0) cO_len rfl rfl rfl Tryd.isAgg9 (by first | assumption | omega) rfl | exact ld_row (k := 1) cO_len rfl rfl rfl Tryd.isAgg9 (by first | assumption | omega) rfl | exact ld_row0 (k := 1) cO_len rfl rfl rfl Tryd.isAgg9 (by first | assumption | omega) rfl | exact ld_i Tryd.isAgg9 rfl)) (by first | exact trivial | exact safe_blk (k0 := 0) rfl rfl) ?_
  refine AD0.take (i := 2) rfl (by kernel_rfl) (by kernel_rfl) (by kernel_rfl) (by repeat (first | exact NP.body | apply NP.then | apply NP.cut | apply NP.inBlock | apply NP.round)) (wants_plain rfl) rfl (still_mv rfl ot) (by exact trivial) ?_
  refine AD0.take (i := 3) rfl (by kernel_rfl) (by kernel_rfl) (by kernel_rfl) (by repeat (first | exact NP.body | apply NP.then | apply NP.cut | apply NP.inBlock | apply NP.round)) (wants_plain rfl) rfl (still_mv rfl ot) (by exact trivial) ?_
  refine AD0.take (i := 4) rfl (by kernel_rfl) (by kernel_rfl) (by kernel_rfl) (by repeat (first | exact NP.body | apply NP.then | apply NP.cut | apply NP.inBlock | apply NP.round)) (wants_plain rfl) rfl (still_mv rfl ot) (by exact trivial) ?_
  refine AD0.take (i := 5) rfl (by kernel_rfl) (by kernel_rfl) (by kernel_rfl) (by repeat (first | exact NP.body | apply NP.then | apply NP.cut | apply NP.inBlock | apply NP.round)) (wants_plain rfl) rfl (still_rs (l := (begF ops (ops.length - 1) 1)) (h := (ops.length - 1)) rfl ot ⟨_, ot⟩ ⟨_, ot⟩ (sl_mid cO_len (fun h => by cases h) (fun h => by cases h) Tryd.runUnderlying25 Tryd.sizeOf40 (by omega) (by omega))) (by exact trivial) ?_
  refine AD0.later rfl ?_
  refine AD.one (i := 6) (by kernel_rfl) ?_
  refine AStep.call rfl (wants_plain rfl) rfl rfl rfl Tryd.call36 (IH ((ops.take (ops.length - 1)).drop (begF ops (ops.length - 1) 1)) ((narF key f (ops.take (begF ops (ops.length - 1) 1)) (lo, hi)).1) ((narF key f (ops.take (begF ops (ops.length - 1) 1)) (lo, hi)).2) (by simp only [List.length_drop, List.length_take]; omega) hm3 (fun o ho => hok o (List.mem_of_mem_take (List.mem_of_mem_drop ho))) (by omega) (by omega) b0) ⟨ot, ot, ot, trivial⟩ (perm_one (k := 0) rfl) (by intro b hb; simp [bks, St.put] at hb ⊢; try first | exact hb | simp [hb] | (rcases hb with hb | hb <;> simp [hb]) | (rcases hb with hb | hb | hb <;> simp [hb])) ?_
  rintro _ _ ⟨rfl, rfl⟩
  refine AD.wk (y := ⟨155, [], [⟨b0, 74, 2, [_, _]⟩, ⟨b4, 9, 1, [_]⟩]⟩) (Wk.as_ rfl rfl trivial) rfl ?_
  refine AD.done (by kernel_rfl) ?_
  refine CD.ret ?_
  refine ⟨.inr rfl, _, [⟨b0, _, _, _⟩], (by repeat (first | exact List.Sublist.refl _ | (apply List.Sublist.cons_cons; exact List.nil_sublist _) | apply List.Sublist.cons)), ret_none Tryd.results36 , ?_⟩
  refine ⟨rfl, ?_⟩
  first | rw [hfh] | rw [hres]
 ·have hc0' := hc0
  (try simp only [V.cnd, ne_eq] at hc0')
  have hk3 : ¬ opK ops (ops.length - 1) = 3 := by rw [hoK]; omega
  refine CD.skip ?_
  refine CD.seq ?_
  refine CD.region ?_
  refine OD.still (wants_plain rfl) rfl (still_mv rfl ot) ?_
  refine OD.still (wants_plain rfl) rfl (still_mv rfl ot) ?_
  refine OD.still (wants_plain rfl) rfl (still_r2 (mk := Op.indexAddr 25) rfl ot ot (by first | exact ix_list Tryd.runUnderlying25 Tryd.sizeOf40 rfl (by first | assumption | omega) | exact ix_list (j := Int.toNat _) Tryd.runUnderlying25 Tryd.sizeOf40 (Int.toNat_of_nonneg (by omega)).symm (by omega) | exact ix_row Tryd.runUnderlying25 Tryd.sizeOf40 rfl (by first | assumption | omega) | exact ix_row (j := Int.toNat _) Tryd.runUnderlying25 Tryd.sizeOf40 (Int.toNat_of_nonneg (by omega)).symm (by omega))) ?_
  refine OD.still (wants_plain rfl) rfl (still_r1 (mk := fun y => Op.fieldAddr 40 y 0) rfl ot (by first | exact fa_ptr (off := 0) Tryd.runUnderlying40 rfl Tryd.sizeOf3 rfl | exact fa_iptr (off := 0) Tryd.runUnderlying40 rfl Tryd.sizeOf3 rfl)) ?_
  refine OD.still (wants_plain rfl) rfl (still_r1 (mk := Op.load 3) rfl ot (by first | exact ld_blk (k := 0) rfl rfl Tryd.isAgg3 rfl | exact ld_blk (k := 1) rfl rfl Tryd.isAgg3 rfl | exact ld_fm cO_len Tryd.isAgg3 (by first | assumption | omega) rfl | exact ld_fm0 cO_len Tryd.isAgg3 (by first | assumption | omega) rfl | exact ld_row (k := 0) cO_len rfl rfl rfl Tryd.isAgg3 (by first | assumption | omega) rfl | exact ld_row0 (k := 0) cO_len rfl rfl rfl Tryd.isAgg3 (by first | assumption | omega) rfl | exact ld_row (k := 1) cO_len rfl rfl rfl Tryd.isAgg3 (by first | assumption | omega) rfl | exact ld_row0 (k := 1) cO_len rfl rfl rfl Tryd.isAgg3 (by first | assumption | omega) rfl | exact ld_i Tryd.isAgg3 rfl)) ?_
  refine OD.still (wants_plain rfl) rfl (still_bin rfl ot opd_const bin_eql) ?_
  refine OD.still (wants_plain rfl) rfl (still_as rfl ot) ?_
  refine OD.wk (Wk.as_ (n := 155) (l' := [(0, _), (2, _), (4, _), (6, _), (8, _)]) (S' := [⟨b4, 9, 1, [_]⟩, ⟨b0, 74, 2, [_, _]⟩]) rfl rfl ⟨lk, lk, lk, lk, lk, trivial⟩) ?_
  refine OD.nil ?_
  refine CD.cut (fun y__ => ∃ (ops2 : List OpL), ∃ (nt : Bool), ((narF key (f + 1) ops (lo, hi)) = leafB key ops2 nt (lo, hi)) ∧ (1 ≤ ops2.length) ∧ (ops2.length ≤ 40) ∧ (∀ o ∈ ops2, o.v.Ok) ∧ (ops2.length - 1 < ops2.length) ∧ y__ = (⟨155, [(0, .v (.pointer (some ⟨b0, 0, none⟩))), (2, .list 5 (ops2.flatMap cO) ops2.length), (4, .v (.pointer (some ⟨b4, 0, none⟩))), (6, .v (.int .i64 ((ops2.length - 1) : Nat))), (8, .v (.bool nt))], [⟨b4, 9, 1, [.v (.string key)]⟩, ⟨b0, 74, 2, [.list 1 (lo.flatMap cB) lo.length, .list 1 (hi.flatMap cB) hi.length]⟩]⟩ : St)) ?_ ?_
  ·skip
   refine CD.seq ?_
   refine CD.region ?_
   refine OD.still (wants_plain rfl) rfl (still_mv rfl ot) ?_
   refine OD.wk (Wk.as_ (n := 155) (l' := [(0, _), (2, _), (4, _), (6, _), (8, _), (45, _)]) (S' := [⟨b4, 9, 1, [_]⟩, ⟨b0, 74, 2, [_, _]⟩]) rfl rfl ⟨lk, lk, lk, lk, lk, lk, trivial⟩) ?_
   refine OD.nil ?_
   refine CD.cond ot (fun hc1 => ?_) (fun hc1 => ?_)
   ·have hc1' := hc1
    (try simp only [V.cnd, ne_eq] at hc1')
    have hk5 : opK ops (ops.length - 1) = 5 := by rw [hoK]; simpa using hc1
    have hl2 : 2 ≤ ops.length := by rw [← hoK, hk5] at hre; have := runs_pos hre; rw [List.length_take] at this; omega
    have hrn : (narF key (f + 1) ops (lo, hi)) = leafB key (ops.take (ops.length - 1)) true (lo, hi) := by rw [narF, if_neg hk3, if_pos hk5]
    have htl : (ops.take (ops.length - 1)).length = (ops.length - 1) := by rw [List.length_take]; omega
    refine CD.seq ?_
    refine CD.region ?_
    refine OD.still (wants_plain rfl) rfl (still_mv rfl ot) ?_
    refine OD.still (wants_plain rfl) rfl (still_mv rfl ot) ?_
    refine OD.still (wants_plain rfl) rfl (still_rs (l := 0) rfl ot trivial ⟨_, ot⟩ (by first | exact sl_head cO_len (fun h => by cases h) Tryd.runUnderlying25 Tryd.sizeOf40 (by omega) | exact sl_row (fun h => by cases h) Tryd.runUnderlying25 Tryd.sizeOf40 (by omega) | exact sl_list (fun _ => rfl) (fun h => by cases h) Tryd.runUnderlying25 Tryd.sizeOf40 (by omega) (by omega))) ?_
    refine OD.still (wants_plain rfl) rfl (still_as rfl ot) ?_
    refine OD.wk (Wk.as_ (n := 155) (l' := [(0, _), (2, _), (4, _), (6, _), (8, _)]) (S' := [⟨b4, 9, 1, [_]⟩, ⟨b0, 74, 2, [_, _]⟩]) rfl rfl ⟨lk, lk, lk, lk, lk, trivial⟩) ?_
    refine OD.nil ?_
    refine CD.region ?_
    refine OD.still (wants_plain rfl) rfl (still_mv rfl ot) ?_
    refine OD.still (wants_plain rfl) rfl (still_bin rfl ot opd_const (bin_sub (r := ((ops.length - 1 - 1 : Nat) : Int)) (by rw [show ((ops.length - 1 : Nat) : Int) - 1 = ((ops.length - 1 - 1 : Nat) : Int) by omega]; exact wrap_i64 (by omega) (by omega)))) ?_
    refine OD.still (wants_plain rfl) rfl (still_as rfl ot) ?_
    refine OD.wk (Wk.as_ (n := 155) (l' := [(0, _), (2, _), (4, _), (6, _), (8, _)]) (S' := [⟨b4, 9, 1, [_]⟩, ⟨b0, 74, 2, [_, _]⟩]) rfl rfl ⟨lk, lk, lk, lk, lk, trivial⟩) ?_
    refine OD.nil ?_
    refine ⟨(⟨155, [(0, .v (.pointer (some ⟨b0, 0, none⟩))), (2, .list 5 (((ops.take (ops.length - 1))).flatMap cO) ((ops.take (ops.length - 1))).length), (4, .v (.pointer (some ⟨b4, 0, none⟩))), (6, .v (.int .i64 ((((ops.take (ops.length - 1))).length - 1) : Nat))), (8, .v (.bool (true)))], [⟨b4, 9, 1, [.v (.string key)]⟩, ⟨b0, 74, 2, [.list 1 (lo.flatMap cB) lo.length, .list 1 (hi.flatMap cB) hi.length]⟩]⟩ : St), Wk.asS (n := 155) rfl (by repeat (first | exact List.Sublist.refl _ | apply List.Sublist.cons)) ⟨(by (repeat (first | exact look_hit | (apply look_at; focus (first | rfl | (rw [htl]; done) | (rw [hc1]; done))) | (apply look_miss; focus rfl))); done), (by (repeat (first | exact look_hit | (apply look_at; focus (first | rfl | (rw [htl]; done) | (rw [hc1]; done))) | (apply look_miss; focus rfl))); done), (by (repeat (first | exact look_hit | (apply look_at; focus (first | rfl | (rw [htl]; done) | (rw [hc1]; done))) | (apply look_miss; focus rfl))); done), (by (repeat (first | exact look_hit | (apply look_at; focus (first | rfl | (rw [htl]; done) | (rw [hc1]; done))) | (apply look_miss; focus rfl))); done), (by (repeat (first | exact look_hit | (apply look_at; focus (first | rfl | (rw [htl]; done) | (rw [hc1]; done))) | (apply look_miss; focus rfl))); done), trivial⟩, (ops.take (ops.length - 1)), true, hrn, (by omega), (by omega), (fun o ho => hok o (List.mem_of_mem_take ho)), (by omega), rfl⟩
   ·have hc1' := hc1
    (try simp only [V.cnd, ne_eq] at hc1')
    have hk5 : ¬ opK ops (ops.length - 1) = 5 := by rw [hoK]; simpa using hc1
    have hrn : (narF key (f + 1) ops (lo, hi)) = leafB key ops false (lo, hi) := by rw [narF, if_neg hk3, if_neg hk5]
    refine CD.skip ?_
    refine ⟨(⟨155, [(0, .v (.pointer (some ⟨b0, 0, none⟩))), (2, .list 5 ((ops).flatMap cO) (ops).length), (4, .v (.pointer (some ⟨b4, 0, none⟩))), (6, .v (.int .i64 (((ops).length - 1) : Nat))), (8, .v (.bool (false)))], [⟨b4, 9, 1, [.v (.string key)]⟩, ⟨b0, 74, 2, [.list 1 (lo.flatMap cB) lo.length, .list 1 (hi.flatMap cB) hi.length]⟩]⟩ : St), Wk.asS (n := 155) rfl (by repeat (first | exact List.Sublist.refl _ | apply List.Sublist.cons)) ⟨(by (repeat (first | exact look_hit | (apply look_at; focus (first | rfl | (rw [htl]; done) | (rw [hc1]; done))) | (apply look_miss; focus rfl))); done), (by (repeat (first | exact look_hit | (apply look_at; focus (first | rfl | (rw [htl]; done) | (rw [hc1]; done))) | (apply look_miss; focus rfl))); done), (by (repeat (first | exact look_hit | (apply look_at; focus (first | rfl | (rw [htl]; done) | (rw [hc1]; done))) | (apply look_miss; focus rfl))); done), (by (repeat (first | exact look_hit | (apply look_at; focus (first | rfl | (rw [htl]; done) | (rw [hc1]; done))) | (apply look_miss; focus rfl))); done), (by (repeat (first | exact look_hit | (apply look_at; focus (first | rfl | (rw [htl]; done) | (rw [hc1]; done))) | (apply look_miss; focus rfl))); done), trivial⟩, ops, false, hrn, hp0, h40, hok, hn1, rfl⟩
  rintro _ ⟨ops2, nt, hres, hp2, h402, hok2, hlt2, rfl⟩
  refine CD.cut (fun y__ => (¬ (ops2.length ≠ 3 ∨ (nt = true ∧ ops2[ops2.length - 1].k ≠ 7) ∨ (ops2[ops2.length - 1].k ≠ 6 ∧ ops2[ops2.length - 1].k ≠ 7))) ∧ y__ = (⟨155, [(0, .v (.pointer (some ⟨b0, 0, none⟩))), (2, .list 5 (ops2.flatMap cO) ops2.length), (4, .v (.pointer (some ⟨b4, 0, none⟩))), (6, .v (.int .i64 ((ops2.length - 1) : Nat))), (8, .v (.bool nt))], [⟨b4, 9, 1, [.v (.string key)]⟩, ⟨b0, 74, 2, [.list 1 (lo.flatMap cB) lo.length, .list 1 (hi.flatMap cB) hi.length]⟩]⟩ : St)) ?_ ?_
  ·skip
   refine CD.seq ?_
   refine CD.region ?_
   refine OD.still (wants_plain rfl) rfl (still_mv rfl ot) ?_
   refine OD.still (wants_plain rfl) rfl (still_bin rfl ot opd_const bin_neq) ?_
   refine OD.still (wants_plain rfl) rfl (still_mv rfl ot) ?_
   refine OD.split (t := 53) lk (fun hg53 => ?_) (fun hg53 => ?_)
   ·have hg53' := hg53; (try simp only [V.cnd, ne_eq] at hg53')
    refine OD.skip (wants_F rfl rfl rfl lk (by first | rfl | assumption)) rfl ?_
    refine OD.skip (wants_F rfl rfl rfl lk (by first | rfl | assumption)) rfl ?_
    refine OD.skip (wants_J (b := false) rfl rfl rfl lk) rfl ?_
    refine OD.skip (wants_J (b := false) rfl rfl rfl lk) rfl ?_
    refine OD.skip (wants_J (b := false) rfl rfl rfl lk) rfl ?_
    refine OD.skip (wants_J (b := false) rfl rfl rfl lk) rfl ?_
    refine OD.skip (wants_J (b := false) rfl rfl rfl lk) rfl ?_
    refine OD.skip (wants_J (b := false) rfl rfl rfl lk) rfl ?_
    refine OD.skip (wants_F rfl rfl rfl lk (by first | rfl | assumption)) rfl ?_
    refine OD.still (wants_plain rfl) rfl (still_pickT rfl ot (by first | rfl | assumption) opd_const) ?_
    refine OD.still (wants_plain rfl) rfl (still_mv rfl ot) ?_
    refine OD.skip (wants_F rfl rfl rfl lk (by first | rfl | assumption)) rfl ?_
    refine OD.skip (wants_F rfl rfl rfl lk (by first | rfl | assumption)) rfl ?_
    refine OD.skip (wants_F rfl rfl rfl lk (by first | rfl | assumption)) rfl ?_
    refine OD.skip (wants_F rfl rfl rfl lk (by first | rfl | assumption)) rfl ?_
    refine OD.skip (wants_F rfl rfl rfl lk (by first | rfl | assumption)) rfl ?_
    refine OD.skip (wants_F rfl rfl rfl lk (by first | rfl | assumption)) rfl ?_
    refine OD.skip (wants_F rfl rfl rfl lk (by first | rfl | assumption)) rfl ?_
    refine OD.skip (wants_J (b := false) rfl rfl rfl lk) rfl ?_
    refine OD.skip (wants_J (b := false) rfl rfl rfl lk) rfl ?_
    refine OD.skip (wants_J (b := false) rfl rfl rfl lk) rfl ?_
    refine OD.skip (wants_J (b := false) rfl rfl rfl lk) rfl ?_
    refine OD.skip (wants_J (b := false) rfl rfl rfl lk) rfl ?_
    refine OD.skip (wants_J (b := false) rfl rfl rfl lk) rfl ?_
    refine OD.skip (wants_F rfl rfl rfl lk (by first | rfl | assumption)) rfl ?_
    refine OD.still (wants_plain rfl) rfl (still_pickT rfl ot (by first | rfl | assumption) opd_const) ?_
    refine OD.wk (Wk.as_ (n := 155) (l' := [(0, _), (2, _), (4, _), (6, _), (8, _), (79, _)]) (S' := [⟨b4, 9, 1, [_]⟩, ⟨b0, 74, 2, [_, _]⟩]) rfl rfl ⟨lk, lk, lk, lk, lk, lk, trivial⟩) ?_
    refine OD.nil ?_
    refine CD.condT ot (by first | rfl | assumption) ?_
    have hcnd : (ops2.length ≠ 3 ∨ (nt = true ∧ ops2[ops2.length - 1].k ≠ 7) ∨ (ops2[ops2.length - 1].k ≠ 6 ∧ ops2[ops2.length - 1].k ≠ 7)) := by first | omega | (simp_all; omega) | simp_all
    have hret : leafB key ops2 nt (lo, hi) = (lo, hi) := by unfold leafB; rw [opK_at hlt2, if_pos hcnd]
    rw [hret] at hres
    refine CD.ret ?_
    refine ⟨.inr rfl, _, [⟨b0, _, _, _⟩], (by repeat (first | exact List.Sublist.refl _ | (apply List.Sublist.cons_cons; exact List.nil_sublist _) | apply List.Sublist.cons)), ret_none Tryd.results36 , ?_⟩
    refine ⟨rfl, ?_⟩
    first | rw [hfh] | rw [hres]
   ·have hg53' := hg53; (try simp only [V.cnd, ne_eq] at hg53')
    refine OD.still (wants_T rfl rfl rfl lk (by first | rfl | assumption)) rfl (still_mv rfl ot) ?_
    refine OD.still (wants_T rfl rfl rfl lk (by first | rfl | assumption)) rfl (still_mv rfl ot) ?_
    refine OD.split (t := 55) lk (fun hg55 => ?_) (fun hg55 => ?_)
    ·have hg55' := hg55; (try simp only [V.cnd, ne_eq] at hg55')
     refine OD.still (wants_T rfl rfl rfl lk (by first | rfl | assumption)) rfl (still_mv rfl ot) ?_
     refine OD.still (wants_T rfl rfl rfl lk (by first | rfl | assumption)) rfl (still_mv rfl ot) ?_
     refine OD.still (wants_T rfl rfl rfl lk (by first | rfl | assumption)) rfl (still_r2 (mk := Op.indexAddr 25) rfl ot ot (by first | exact ix_list Tryd.runUnderlying25 Tryd.sizeOf40 (j := (ops2.length - 1)) rfl hlt2 | exact ix_row Tryd.runUnderlying25 Tryd.sizeOf40 (j := (ops2.length - 1)) rfl hlt2)) ?_
     refine OD.still (wants_T rfl rfl rfl lk (by first | rfl | assumption)) rfl (still_r1 (mk := fun y => Op.fieldAddr 40 y 0) rfl ot (by first | exact fa_ptr (off := 0) Tryd.runUnderlying40 rfl Tryd.sizeOf3 rfl | exact fa_iptr (off := 0) Tryd.runUnderlying40 rfl Tryd.sizeOf3 rfl)) ?_
     refine OD.still (wants_T rfl rfl rfl lk (by first | rfl | assumption)) rfl (still_r1 (mk := Op.load 3) rfl ot (by first | exact ld_blk (k := 0) rfl rfl Tryd.isAgg3 rfl | exact ld_blk (k := 1) rfl rfl Tryd.isAgg3 rfl | exact ld_fm cO_len Tryd.isAgg3 (by first | assumption | omega) rfl | exact ld_fm0 cO_len Tryd.isAgg3 (by first | assumption | omega) rfl | exact ld_row (k := 0) cO_len rfl rfl rfl Tryd.isAgg3 (by first | assumption | omega) rfl | exact ld_row0 (k := 0) cO_len rfl rfl rfl Tryd.isAgg3 (by first | assumption | omega) rfl | exact ld_row (k := 1) cO_len rfl rfl rfl Tryd.isAgg3 (by first | assumption | omega) rfl | exact ld_row0 (k := 1) cO_len rfl rfl rfl Tryd.isAgg3 (by first | assumption | omega) rfl | exact ld_i Tryd.isAgg3 rfl)) ?_
     refine OD.still (wants_T rfl rfl rfl lk (by first | rfl | assumption)) rfl (still_bin rfl ot opd_const bin_neq) ?_
     refine OD.still (wants_T rfl rfl rfl lk (by first | rfl | assumption)) rfl (still_pickT rfl ot (by first | rfl | assumption) ot) ?_
     refine OD.still (wants_plain rfl) rfl (still_pickF rfl ot (by first | rfl | assumption) ot) ?_
     refine OD.still (wants_plain rfl) rfl (still_mv rfl ot) ?_
     refine OD.split (t := 64) lk (fun hg64 => ?_) (fun hg64 => ?_)
     ·have hg64' := hg64; (try simp only [V.cnd, ne_eq] at hg64')
      refine OD.skip (wants_F rfl rfl rfl lk (by first | rfl | assumption)) rfl ?_
      refine OD.skip (wants_F rfl rfl rfl lk (by first | rfl | assumption)) rfl ?_
      refine OD.skip (wants_F rfl rfl rfl lk (by first | rfl | assumption)) rfl ?_
      refine OD.skip (wants_F rfl rfl rfl lk (by first | rfl | assumption)) rfl ?_
      refine OD.skip (wants_F rfl rfl rfl lk (by first | rfl | assumption)) rfl ?_
      refine OD.skip (wants_F rfl rfl rfl lk (by first | rfl | assumption)) rfl ?_
      refine OD.skip (wants_F rfl rfl rfl lk (by first | rfl | assumption)) rfl ?_
      refine OD.skip (wants_J (b := false) rfl rfl rfl lk) rfl ?_
      refine OD.skip (wants_J (b := false) rfl rfl rfl lk) rfl ?_
      refine OD.skip (wants_J (b := false) rfl rfl rfl lk) rfl ?_
      refine OD.skip (wants_J (b := false) rfl rfl rfl lk) rfl ?_
      refine OD.skip (wants_J (b := false) rfl rfl rfl lk) rfl ?_
      refine OD.skip (wants_J (b := false) rfl rfl rfl lk) rfl ?_
      refine OD.skip (wants_F rfl rfl rfl lk (by first | rfl | assumption)) rfl ?_
      refine OD.still (wants_plain rfl) rfl (still_pickT rfl ot (by first | rfl | assumption) opd_const) ?_
      refine OD.wk (Wk.as_ (n := 155) (l' := [(0, _), (2, _), (4, _), (6, _), (8, _), (79, _)]) (S' := [⟨b4, 9, 1, [_]⟩, ⟨b0, 74, 2, [_, _]⟩]) rfl rfl ⟨lk, lk, lk, lk, lk, lk, trivial⟩) ?_
      refine OD.nil ?_
      refine CD.condT ot (by first | rfl | assumption) ?_
      have hcnd : (ops2.length ≠ 3 ∨ (nt = true ∧ ops2[ops2.length - 1].k ≠ 7) ∨ (ops2[ops2.length - 1].k ≠ 6 ∧ ops2[ops2.length - 1].k ≠ 7)) := by first | omega | (simp_all; omega) | simp_all
      have hret : leafB key ops2 nt (lo, hi) = (lo, hi) := by unfold leafB; rw [opK_at hlt2, if_pos hcnd]
      rw [hret] at hres
      refine CD.ret ?_
      refine ⟨.inr rfl, _, [⟨b0, _, _, _⟩], (by repeat (first | exact List.Sublist.refl _ | (apply List.Sublist.cons_cons; exact List.nil_sublist _) | apply List.Sublist.cons)), ret_none Tryd.results36 , ?_⟩
      refine ⟨rfl, ?_⟩
      first | rw [hfh] | rw [hres]
     ·have hg64' := hg64; (try simp only [V.cnd, ne_eq] at hg64')
      refine OD.still (wants_T rfl rfl rfl lk (by first | rfl | assumption)) rfl (still_mv rfl ot) ?_
      refine OD.still (wants_T rfl rfl rfl lk (by first | rfl | assumption)) rfl (still_mv rfl ot) ?_
      refine OD.still (wants_T rfl rfl rfl lk (by first | rfl | assumption)) rfl (still_r2 (mk := Op.indexAddr 25) rfl ot ot (by first | exact ix_list Tryd.runUnderlying25 Tryd.sizeOf40 (j := (ops2.length - 1)) rfl hlt2 | exact ix_row Tryd.runUnderlying25 Tryd.sizeOf40 (j := (ops2.length - 1)) rfl hlt2)) ?_
      refine OD.still (wants_T rfl rfl rfl lk (by first | rfl | assumption)) rfl (still_r1 (mk := fun y => Op.fieldAddr 40 y 0) rfl ot (by first | exact fa_ptr (off := 0) Tryd.runUnderlying40 rfl Tryd.sizeOf3 rfl | exact fa_iptr (off := 0) Tryd.runUnderlying40 rfl Tryd.sizeOf3 rfl)) ?_
      refine OD.still (wants_T rfl rfl rfl lk (by first | rfl | assumption)) rfl (still_r1 (mk := Op.load 3) rfl ot (by first | exact ld_blk (k := 0) rfl rfl Tryd.isAgg3 rfl | exact ld_blk (k := 1) rfl rfl Tryd.isAgg3 rfl | exact ld_fm cO_len Tryd.isAgg3 (by first | assumption | omega) rfl | exact ld_fm0 cO_len Tryd.isAgg3 (by first | assumption | omega) rfl | exact ld_row (k := 0) cO_len rfl rfl rfl Tryd.isAgg3 (by first | assumption | omega) rfl | exact ld_row0 (k := 0) cO_len rfl rfl rfl Tryd.isAgg3 (by first | assumption | omega) rfl | exact ld_row (k := 1) cO_len rfl rfl rfl Tryd.isAgg3 (by first | assumption | omega) rfl | exact ld_row0 (k := 1) cO_len rfl rfl rfl Tryd.isAgg3 (by first | assumption | omega) rfl | exact ld_i Tryd.isAgg3 rfl)) ?_
      refine OD.still (wants_T rfl rfl rfl lk (by first | rfl | assumption)) rfl (still_bin rfl ot opd_const bin_neq) ?_
      refine OD.still (wants_T rfl rfl rfl lk (by first | rfl | assumption)) rfl (still_mv rfl ot) ?_
      refine OD.split (t := 71) lk (fun hg71 => ?_) (fun hg71 => ?_)
      ·have hg71' := hg71; (try simp only [V.cnd, ne_eq] at hg71')
       refine OD.still (wants_T rfl rfl rfl lk (by first | rfl | assumption)) rfl (still_mv rfl ot) ?_
       refine OD.still (wants_T rfl rfl rfl lk (by first | rfl | assumption)) rfl (still_mv rfl ot) ?_
       refine OD.still (wants_T rfl rfl rfl lk (by first | rfl | assumption)) rfl (still_r2 (mk := Op.indexAddr 25) rfl ot ot (by first | exact ix_list Tryd.runUnderlying25 Tryd.sizeOf40 (j := (ops2.length - 1)) rfl hlt2 | exact ix_row Tryd.runUnderlying25 Tryd.sizeOf40 (j := (ops2.length - 1)) rfl hlt2)) ?_
       refine OD.still (wants_T rfl rfl rfl lk (by first | rfl | assumption)) rfl (still_r1 (mk := fun y => Op.fieldAddr 40 y 0) rfl ot (by first | exact fa_ptr (off := 0) Tryd.runUnderlying40 rfl Tryd.sizeOf3 rfl | exact fa_iptr (off := 0) Tryd.runUnderlying40 rfl Tryd.sizeOf3 rfl)) ?_
       refine OD.still (wants_T rfl rfl rfl lk (by first | rfl | assumption)) rfl (still_r1 (mk := Op.load 3) rfl ot (by first | exact ld_blk (k := 0) rfl rfl Tryd.isAgg3 rfl | exact ld_blk (k := 1) rfl rfl Tryd.isAgg3 rfl | exact ld_fm cO_len Tryd.isAgg3 (by first | assumption | omega) rfl | exact ld_fm0 cO_len Tryd.isAgg3 (by first | assumption | omega) rfl | exact ld_row (k := 0) cO_len rfl rfl rfl Tryd.isAgg3 (by first | assumption | omega) rfl | exact ld_row0 (k := 0) cO_len rfl rfl rfl Tryd.isAgg3 (by first | assumption | omega) rfl | exact ld_row (k := 1) cO_len rfl rfl rfl Tryd.isAgg3 (by first | assumption | omega) rfl | exact ld_row0 (k := 1) cO_len rfl rfl rfl Tryd.isAgg3 (by first | assumption | omega) rfl | exact ld_i Tryd.isAgg3 rfl)) ?_
       refine OD.still (wants_T rfl rfl rfl lk (by first | rfl | assumption)) rfl (still_bin rfl ot opd_const bin_neq) ?_
       refine OD.still (wants_T rfl rfl rfl lk (by first | rfl | assumption)) rfl (still_pickT rfl ot (by first | rfl | assumption) ot) ?_
       refine OD.still (wants_plain rfl) rfl (still_pickF rfl ot (by first | rfl | assumption) ot) ?_
       refine OD.wk (Wk.as_ (n := 155) (l' := [(0, _), (2, _), (4, _), (6, _), (8, _), (79, _)]) (S' := [⟨b4, 9, 1, [_]⟩, ⟨b0, 74, 2, [_, _]⟩]) rfl rfl ⟨lk, lk, lk, lk, lk, lk, trivial⟩) ?_
       refine OD.nil ?_
       refine CD.cond ot (fun hc2 => ?_) (fun hc2 => ?_)
       ·have hc2' := hc2
        (try simp only [V.cnd, ne_eq] at hc2')
        have hcnd : (ops2.length ≠ 3 ∨ (nt = true ∧ ops2[ops2.length - 1].k ≠ 7) ∨ (ops2[ops2.length - 1].k ≠ 6 ∧ ops2[ops2.length - 1].k ≠ 7)) := by first | omega | (simp_all; omega) | simp_all
        have hret : leafB key ops2 nt (lo, hi) = (lo, hi) := by unfold leafB; rw [opK_at hlt2, if_pos hcnd]
        rw [hret] at hres
        refine CD.ret ?_
        refine ⟨.inr rfl, _, [⟨b0, _, _, _⟩], (by repeat (first | exact List.Sublist.refl _ | (apply List.Sublist.cons_cons; exact List.nil_sublist _) | apply List.Sublist.cons)), ret_none Tryd.results36 , ?_⟩
        refine ⟨rfl, ?_⟩
        first | rw [hfh] | rw [hres]
       ·have hc2' := hc2
        (try simp only [V.cnd, ne_eq] at hc2')
        have hcnd : ¬ (ops2.length ≠ 3 ∨ (nt = true ∧ ops2[ops2.length - 1].k ≠ 7) ∨ (ops2[ops2.length - 1].k ≠ 6 ∧ ops2[ops2.length - 1].k ≠ 7)) := by first | omega | (simp_all; omega) | simp_all
        refine CD.skip ?_
        refine ⟨(⟨155, [(0, .v (.pointer (some ⟨b0, 0, none⟩))), (2, .list 5 (ops2.flatMap cO) ops2.length), (4, .v (.pointer (some ⟨b4, 0, none⟩))), (6, .v (.int .i64 ((ops2.length - 1) : Nat))), (8, .v (.bool nt))], [⟨b4, 9, 1, [.v (.string key)]⟩, ⟨b0, 74, 2, [.list 1 (lo.flatMap cB) lo.length, .list 1 (hi.flatMap cB) hi.length]⟩]⟩ : St), Wk.asS (n := 155) rfl (by repeat (first | exact List.Sublist.refl _ | apply List.Sublist.cons)) ⟨(by (repeat (first | exact look_hit | (apply look_at; focus (first | rfl | (simp; done) | (congr 2; omega))) | (apply look_miss; focus rfl))); done), (by (repeat (first | exact look_hit | (apply look_at; focus (first | rfl | (simp; done) | (congr 2; omega))) | (apply look_miss; focus rfl))); done), (by (repeat (first | exact look_hit | (apply look_at; focus (first | rfl | (simp; done) | (congr 2; omega))) | (apply look_miss; focus rfl))); done), (by (repeat (first | exact look_hit | (apply look_at; focus (first | rfl | (simp; done) | (congr 2; omega))) | (apply look_miss; focus rfl))); done), (by (repeat (first | exact look_hit | (apply look_at; focus (first | rfl | (simp; done) | (congr 2; omega))) | (apply look_miss; focus rfl))); done), trivial⟩, hcnd, rfl⟩
      ·have hg71' := hg71; (try simp only [V.cnd, ne_eq] at hg71')
       refine OD.skip (wants_F rfl rfl rfl lk (by first | rfl | assumption)) rfl ?_
       refine OD.skip (wants_F rfl rfl rfl lk (by first | rfl | assumption)) rfl ?_
       refine OD.skip (wants_F rfl rfl rfl lk (by first | rfl | assumption)) rfl ?_
       refine OD.skip (wants_F rfl rfl rfl lk (by first | rfl | assumption)) rfl ?_
       refine OD.skip (wants_F rfl rfl rfl lk (by first | rfl | assumption)) rfl ?_
       refine OD.skip (wants_F rfl rfl rfl lk (by first | rfl | assumption)) rfl ?_
       refine OD.still (wants_T rfl rfl rfl lk (by first | rfl | assumption)) rfl (still_pickF rfl ot (by first | rfl | assumption) opd_const) ?_
       refine OD.still (wants_plain rfl) rfl (still_pickF rfl ot (by first | rfl | assumption) ot) ?_
       refine OD.wk (Wk.as_ (n := 155) (l' := [(0, _), (2, _), (4, _), (6, _), (8, _), (79, _)]) (S' := [⟨b4, 9, 1, [_]⟩, ⟨b0, 74, 2, [_, _]⟩]) rfl rfl ⟨lk, lk, lk, lk, lk, lk, trivial⟩) ?_
       refine OD.nil ?_
       refine CD.condF ot (by first | rfl | assumption) ?_
       have hcnd : ¬ (ops2.length ≠ 3 ∨ (nt = true ∧ ops2[ops2.length - 1].k ≠ 7) ∨ (ops2[ops2.length - 1].k ≠ 6 ∧ ops2[ops2.length - 1].k ≠ 7)) := by first | omega | (simp_all; omega) | simp_all
       refine CD.skip ?_
       refine ⟨(⟨155, [(0, .v (.pointer (some ⟨b0, 0, none⟩))), (2, .list 5 (ops2.flatMap cO) ops2.length), (4, .v (.pointer (some ⟨b4, 0, none⟩))), (6, .v (.int .i64 ((ops2.length - 1) : Nat))), (8, .v (.bool nt))], [⟨b4, 9, 1, [.v (.string key)]⟩, ⟨b0, 74, 2, [.list 1 (lo.flatMap cB) lo.length, .list 1 (hi.flatMap cB) hi.length]⟩]⟩ : St), Wk.asS (n := 155) rfl (by repeat (first | exact List.Sublist.refl _ | apply List.Sublist.cons)) ⟨(by (repeat (first | exact look_hit | (apply look_at; focus (first | rfl | (simp; done) | (congr 2; omega))) | (apply look_miss; focus rfl))); done), (by (repeat (first | exact look_hit | (apply look_at; focus (first | rfl | (simp; done) | (congr 2; omega))) | (apply look_miss; focus rfl))); done), (by (repeat (first | exact look_hit | (apply look_at; focus (first | rfl | (simp; done) | (congr 2; omega))) | (apply look_miss; focus rfl))); done), (by (repeat (first | exact look_hit | (apply look_at; focus (first | rfl | (simp; done) | (congr 2; omega))) | (apply look_miss; focus rfl))); done), (by (repeat (first | exact look_hit | (apply look_at; focus (first | rfl | (simp; done) | (congr 2; omega))) | (apply look_miss; focus rfl))); done), trivial⟩, hcnd, rfl⟩
    ·have hg55' := hg55; (try simp only [V.cnd, ne_eq] at hg55')
     refine OD.skip (wants_F rfl rfl rfl lk (by first | rfl | assumption)) rfl ?_
     refine OD.skip (wants_F rfl rfl rfl lk (by first | rfl | assumption)) rfl ?_
     refine OD.skip (wants_F rfl rfl rfl lk (by first | rfl | assumption)) rfl ?_
     refine OD.skip (wants_F rfl rfl rfl lk (by first | rfl | assumption)) rfl ?_
     refine OD.skip (wants_F rfl rfl rfl lk (by first | rfl | assumption)) rfl ?_
     refine OD.skip (wants_F rfl rfl rfl lk (by first | rfl | assumption)) rfl ?_
     refine OD.still (wants_T rfl rfl rfl lk (by first | rfl | assumption)) rfl (still_pickF rfl ot (by first | rfl | assumption) opd_const) ?_
     refine OD.still (wants_plain rfl) rfl (still_pickF rfl ot (by first | rfl | assumption) ot) ?_
     refine OD.still (wants_plain rfl) rfl (still_mv rfl ot) ?_
     refine OD.still (wants_T rfl rfl rfl lk (by first | rfl | assumption)) rfl (still_mv rfl ot) ?_
     refine OD.still (wants_T rfl rfl rfl lk (by first | rfl | assumption)) rfl (still_mv rfl ot) ?_
     refine OD.still (wants_T rfl rfl rfl lk (by first | rfl | assumption)) rfl (still_r2 (mk := Op.indexAddr 25) rfl ot ot (by first | exact ix_list Tryd.runUnderlying25 Tryd.sizeOf40 (j := (ops2.length - 1)) rfl hlt2 | exact ix_row Tryd.runUnderlying25 Tryd.sizeOf40 (j := (ops2.length - 1)) rfl hlt2)) ?_
     refine OD.still (wants_T rfl rfl rfl lk (by first | rfl | assumption)) rfl (still_r1 (mk := fun y => Op.fieldAddr 40 y 0) rfl ot (by first | exact fa_ptr (off := 0) Tryd.runUnderlying40 rfl Tryd.sizeOf3 rfl | exact fa_iptr (off := 0) Tryd.runUnderlying40 rfl Tryd.sizeOf3 rfl)) ?_
     refine OD.still (wants_T rfl rfl rfl lk (by first | rfl | assumption)) rfl (still_r1 (mk := Op.load 3) rfl ot (by first | exact ld_blk (k := 0) rfl rfl Tryd.isAgg3 rfl | exact ld_blk (k := 1) rfl rfl Tryd.isAgg3 rfl | exact ld_fm cO_len Tryd.isAgg3 (by first | assumption | omega) rfl | exact ld_fm0 cO_len Tryd.isAgg3 (by first | assumption | omega) rfl | exact ld_row (k := 0) cO_len rfl rfl rfl Tryd.isAgg3 (by first | assumption | omega) rfl | exact ld_row0 (k := 0) cO_len rfl rfl rfl Tryd.isAgg3 (by first | assumption | omega) rfl | exact ld_row (k := 1) cO_len rfl rfl rfl Tryd.isAgg3 (by first | assumption | omega) rfl | exact ld_row0 (k := 1) cO_len rfl rfl rfl Tryd.isAgg3 (by first | assumption | omega) rfl | exact ld_i Tryd.isAgg3 rfl)) ?_
     refine OD.still (wants_T rfl rfl rfl lk (by first | rfl | assumption)) rfl (still_bin rfl ot opd_const bin_neq) ?_
     refine OD.still (wants_T rfl rfl rfl lk (by first | rfl | assumption)) rfl (still_mv rfl ot) ?_
     refine OD.split (t := 71) lk (fun hg71 => ?_) (fun hg71 => ?_)
     ·have hg71' := hg71; (try simp only [V.cnd, ne_eq] at hg71')
      refine OD.still (wants_T rfl rfl rfl lk (by first | rfl | assumption)) rfl (still_mv rfl ot) ?_
      refine OD.still (wants_T rfl rfl rfl lk (by first | rfl | assumption)) rfl (still_mv rfl ot) ?_
      refine OD.still (wants_T rfl rfl rfl lk (by first | rfl | assumption)) rfl (still_r2 (mk := Op.indexAddr 25) rfl ot ot (by first | exact ix_list Tryd.runUnderlying25 Tryd.sizeOf40 (j := (ops2.length - 1)) rfl hlt2 | exact ix_row Tryd.runUnderlying25 Tryd.sizeOf40 (j := (ops2.length - 1)) rfl hlt2)) ?_
      refine OD.still (wants_T rfl rfl rfl lk (by first | rfl | assumption)) rfl (still_r1 (mk := fun y => Op.fieldAddr 40 y 0) rfl ot (by first | exact fa_ptr (off := 0) Tryd.runUnderlying40 rfl Tryd.sizeOf3 rfl | exact fa_iptr (off := 0) Tryd.runUnderlying40 rfl Tryd.sizeOf3 rfl)) ?_
      refine OD.still (wants_T rfl rfl rfl lk (by first | rfl | assumption)) rfl (still_r1 (mk := Op.load 3) rfl ot (by first | exact ld_blk (k := 0) rfl rfl Tryd.isAgg3 rfl | exact ld_blk (k := 1) rfl rfl Tryd.isAgg3 rfl | exact ld_fm cO_len Tryd.isAgg3 (by first | assumption | omega) rfl | exact ld_fm0 cO_len Tryd.isAgg3 (by first | assumption | omega) rfl | exact ld_row (k := 0) cO_len rfl rfl rfl Tryd.isAgg3 (by first | assumption | omega) rfl | exact ld_row0 (k := 0) cO_len rfl rfl rfl Tryd.isAgg3 (by first | assumption | omega) rfl | exact ld_row (k := 1) cO_len rfl rfl rfl Tryd.isAgg3 (by first | assumption | omega) rfl | exact ld_row0 (k := 1) cO_len rfl rfl rfl Tryd.isAgg3 (by first | assumption | omega) rfl | exact ld_i Tryd.isAgg3 rfl)) ?_
      refine OD.still (wants_T rfl rfl rfl lk (by first | rfl | assumption)) rfl (still_bin rfl ot opd_const bin_neq) ?_
      refine OD.still (wants_T rfl rfl rfl lk (by first | rfl | assumption)) rfl (still_pickT rfl ot (by first | rfl | assumption) ot) ?_
      refine OD.still (wants_plain rfl) rfl (still_pickF rfl ot (by first | rfl | assumption) ot) ?_
      refine OD.wk (Wk.as_ (n := 155) (l' := [(0, _), (2, _), (4, _), (6, _), (8, _), (79, _)]) (S' := [⟨b4, 9, 1, [_]⟩, ⟨b0, 74, 2, [_, _]⟩]) rfl rfl ⟨lk, lk, lk, lk, lk, lk, trivial⟩) ?_
      refine OD.nil ?_
      refine CD.cond ot (fun hc2 => ?_) (fun hc2 => ?_)
      ·have hc2' := hc2
       (try simp only [V.cnd, ne_eq] at hc2')
       have hcnd : (ops2.length ≠ 3 ∨ (nt = true ∧ ops2[ops2.length - 1].k ≠ 7) ∨ (ops2[ops2.length - 1].k ≠ 6 ∧ ops2[ops2.length - 1].k ≠ 7)) := by first | omega | (simp_all; omega) | simp_all
       have hret : leafB key ops2 nt (lo, hi) = (lo, hi) := by unfold leafB; rw [opK_at hlt2, if_pos hcnd]
       rw [hret] at hres
       refine CD.ret ?_
       refine ⟨.inr rfl, _, [⟨b0, _, _, _⟩], (by repeat (first | exact List.Sublist.refl _ | (apply List.Sublist.cons_cons; exact List.nil_sublist _) | apply List.Sublist.cons)), ret_none Tryd.results36 , ?_⟩
       refine ⟨rfl, ?_⟩
       first | rw [hfh] | rw [hres]
      ·have hc2' := hc2
       (try simp only [V.cnd, ne_eq] at hc2')
       have hcnd : ¬ (ops2.length ≠ 3 ∨ (nt = true ∧ ops2[ops2.length - 1].k ≠ 7) ∨ (ops2[ops2.length - 1].k ≠ 6 ∧ ops2[ops2.length - 1].k ≠ 7)) := by first | omega | (simp_all; omega) | simp_all
       refine CD.skip ?_
       refine ⟨(⟨155, [(0, .v (.pointer (some ⟨b0, 0, none⟩))), (2, .list 5 (ops2.flatMap cO) ops2.length), (4, .v (.pointer (some ⟨b4, 0, none⟩))), (6, .v (.int .i64 ((ops2.length - 1) : Nat))), (8, .v (.bool nt))], [⟨b4, 9, 1, [.v (.string key)]⟩, ⟨b0, 74, 2, [.list 1 (lo.flatMap cB) lo.length, .list 1 (hi.flatMap cB) hi.length]⟩]⟩ : St), Wk.asS (n := 155) rfl (by repeat (first | exact List.Sublist.refl _ | apply List.Sublist.cons)) ⟨(by (repeat (first | exact look_hit | (apply look_at; focus (first | rfl | (simp; done) | (congr 2; omega))) | (apply look_miss; focus rfl))); done), (by (repeat (first | exact look_hit | (apply look_at; focus (first | rfl | (simp; done) | (congr 2; omega))) | (apply look_miss; focus rfl))); done), (by (repeat (first | exact look_hit | (apply look_at; focus (first | rfl | (simp; done) | (congr 2; omega))) | (apply look_miss; focus rfl))); done), (by (repeat (first | exact look_hit | (apply look_at; focus (first | rfl | (simp; done) | (congr 2; omega))) | (apply look_miss; focus rfl))); done), (by (repeat (first | exact look_hit | (apply look_at; focus (first | rfl | (simp; done) | (congr 2; omega))) | (apply look_miss; focus rfl))); done), trivial⟩, hcnd, rfl⟩
     ·have hg71' := hg71; (try simp only [V.cnd, ne_eq] at hg71')
      refine OD.skip (wants_F rfl rfl rfl lk (by first | rfl | assumption)) rfl ?_
      refine OD.skip (wants_F rfl rfl rfl lk (by first | rfl | assumption)) rfl ?_
      refine OD.skip (wants_F rfl rfl rfl lk (by first | rfl | assumption)) rfl ?_
      refine OD.skip (wants_F rfl rfl rfl lk (by first | rfl | assumption)) rfl ?_
      refine OD.skip (wants_F rfl rfl rfl lk (by first | rfl | assumption)) rfl ?_
      refine OD.skip (wants_F rfl rfl rfl lk (by first | rfl | assumption)) rfl ?_
      refine OD.still (wants_T rfl rfl rfl lk (by first | rfl | assumption)) rfl (still_pickF rfl ot (by first | rfl | assumption) opd_const) ?_
      refine OD.still (wants_plain rfl) rfl (still_pickF rfl ot (by first | rfl | assumption) ot) ?_
      refine OD.wk (Wk.as_ (n := 155) (l' := [(0, _), (2, _), (4, _), (6, _), (8, _), (79, _)]) (S' := [⟨b4, 9, 1, [_]⟩, ⟨b0, 74, 2, [_, _]⟩]) rfl rfl ⟨lk, lk, lk, lk, lk, lk, trivial⟩) ?_
      refine OD.nil ?_
      refine CD.condF ot (by first | rfl | assumption) ?_
      have hcnd : ¬ (ops2.length ≠ 3 ∨ (nt = true ∧ ops2[ops2.length - 1].k ≠ 7) ∨ (ops2[ops2.length - 1].k ≠ 6 ∧ ops2[ops2.length - 1].k ≠ 7)) := by first | omega | (simp_all; omega) | simp_all
      refine CD.skip ?_
      refine ⟨(⟨155, [(0, .v (.pointer (some ⟨b0, 0, none⟩))), (2, .list 5 (ops2.flatMap cO) ops2.length), (4, .v (.pointer (some ⟨b4, 0, none⟩))), (6, .v (.int .i64 ((ops2.length - 1) : Nat))), (8, .v (.bool nt))], [⟨b4, 9, 1, [.v (.string key)]⟩, ⟨b0, 74, 2, [.list 1 (lo.flatMap cB) lo.length, .list 1 (hi.flatMap cB) hi.length]⟩]⟩ : St), Wk.asS (n := 155) rfl (by repeat (first | exact List.Sublist.refl _ | apply List.Sublist.cons)) ⟨(by (repeat (first | exact look_hit | (apply look_at; focus (first | rfl | (simp; done) | (congr 2; omega))) | (apply look_miss; focus rfl))); done), (by (repeat (first | exact look_hit | (apply look_at; focus (first | rfl | (simp; done) | (congr 2; omega))) | (apply look_miss; focus rfl))); done), (by (repeat (first | exact look_hit | (apply look_at; focus (first | rfl | (simp; done) | (congr 2; omega))) | (apply look_miss; focus rfl))); done), (by (repeat (first | exact look_hit | (apply look_at; focus (first | rfl | (simp; done) | (congr 2; omega))) | (apply look_miss; focus rfl))); done), (by (repeat (first | exact look_hit | (apply look_at; focus (first | rfl | (simp; done) | (congr 2; omega))) | (apply look_miss; focus rfl))); done), trivial⟩, hcnd, rfl⟩
  rintro _ ⟨hcnd, rfl⟩
  refine CD.seq ?_
  refine CD.region ?_
  refine OD.still (wants_plain rfl) rfl (still_mv rfl ot) ?_
  refine OD.still (wants_plain rfl) rfl (still_rs (l := 0) (h := 2) rfl ot trivial ⟨_, opd_const⟩ (by first | exact sl_head cO_len (fun h => by cases h) Tryd.runUnderlying25 Tryd.sizeOf40 (by omega) | exact sl_row (fun h => by cases h) Tryd.runUnderlying25 Tryd.sizeOf40 (by omega) | exact sl_list (fun _ => rfl) (fun h => by cases h) Tryd.runUnderlying25 Tryd.sizeOf40 (by omega) (by omega))) ?_
  refine OD.still (wants_plain rfl) rfl (still_fn (ds := [_]) rfl ⟨ot, trivial⟩) ?_
  refine OD.call (wants_plain rfl) rfl rfl rfl Tryd.call53 (indexO_vc (ops2.take 2) 54 [.v (.pointer (some ⟨b4, 0, none⟩))] _ (keyCol key) Tryd.call54 (fun h _ => narcl1_vc h key b4) (by rw [List.length_take]; omega)) ⟨ot, ot, trivial⟩ (perm_one (k := 0) rfl) ?_; rintro _ SS2 ⟨rfl, hSS2⟩; rw [hSS2]; clear hSS2
  refine OD.still (wants_plain rfl) rfl (still_as rfl ot) ?_
  refine OD.wk (Wk.as_ (n := 155) (l' := [(0, _), (2, _), (6, _), (8, _), (9, _)]) (S' := [⟨b4, 9, 1, [_]⟩, ⟨b0, 74, 2, [_, _]⟩]) rfl rfl ⟨lk, lk, lk, lk, lk, trivial⟩) ?_
  refine OD.nil ?_
  refine CD.seq ?_
  refine CD.region ?_
  refine OD.still (wants_plain rfl) rfl (still_mv rfl ot) ?_
  refine OD.still (wants_plain rfl) rfl (still_rs (l := 0) (h := 2) rfl ot trivial ⟨_, opd_const⟩ (by first | exact sl_head cO_len (fun h => by cases h) Tryd.runUnderlying25 Tryd.sizeOf40 (by omega) | exact sl_row (fun h => by cases h) Tryd.runUnderlying25 Tryd.sizeOf40 (by omega) | exact sl_list (fun _ => rfl) (fun h => by cases h) Tryd.runUnderlying25 Tryd.sizeOf40 (by omega) (by omega))) ?_
  refine OD.call (wants_plain rfl) rfl rfl rfl Tryd.call53 (indexO_vc (ops2.take 2) 55 [] [] litNN Tryd.call55 (fun h _ => narcl2_vp h) (by rw [List.length_take]; omega)) ⟨ot, opd_func, trivial⟩ (perm_none _) ?_; rintro _ SS2 ⟨rfl, hSS2⟩; rw [hSS2]; clear hSS2
  refine OD.still (wants_plain rfl) rfl (still_as rfl ot) ?_
  refine OD.wk (Wk.as_ (n := 155) (l' := [(0, _), (2, _), (6, _), (8, _), (9, _), (10, _)]) (S' := [⟨b4, 9, 1, [_]⟩, ⟨b0, 74, 2, [_, _]⟩]) rfl rfl ⟨lk, lk, lk, lk, lk, lk, trivial⟩) ?_
  refine OD.nil ?_
  refine CD.seq ?_
  refine CD.seq ?_
  refine CD.region ?_
  refine OD.still (wants_plain rfl) rfl (still_mv rfl ot) ?_
  refine OD.still (wants_plain rfl) rfl (still_bin rfl ot opd_const bin_lss) ?_
  refine OD.still (wants_plain rfl) rfl (still_mv rfl ot) ?_
  refine OD.split (t := 89) lk (fun hg89 => ?_) (fun hg89 => ?_)
  ·have hg89' := hg89; (try simp only [V.cnd, ne_eq] at hg89')
   refine OD.skip (wants_F rfl rfl rfl lk (by first | rfl | assumption)) rfl ?_
   refine OD.skip (wants_F rfl rfl rfl lk (by first | rfl | assumption)) rfl ?_
   refine OD.still (wants_plain rfl) rfl (still_pickT rfl ot (by first | rfl | assumption) opd_const) ?_
   refine OD.wk (Wk.as_ (n := 155) (l' := [(0, _), (2, _), (6, _), (8, _), (9, _), (10, _), (92, _)]) (S' := [⟨b4, 9, 1, [_]⟩, ⟨b0, 74, 2, [_, _]⟩]) rfl rfl ⟨lk, lk, lk, lk, lk, lk, lk, trivial⟩) ?_
   refine OD.nil ?_
   refine CD.condT ot (by first | rfl | assumption) ?_
   have hc2 : (idxG (keyCol key) (ops2.take 2)) < 0 ∨ (idxG litNN (ops2.take 2)) < 0 := by first | omega | (simp_all; omega) | simp_all
   have hret : leafB key ops2 nt (lo, hi) = (lo, hi) := by unfold leafB; rw [opK_at hlt2, if_neg hcnd, if_pos hc2]
   rw [hret] at hres
   refine CD.ret ?_
   refine ⟨.inr rfl, _, [⟨b0, _, _, _⟩], (by repeat (first | exact List.Sublist.refl _ | (apply List.Sublist.cons_cons; exact List.nil_sublist _) | apply List.Sublist.cons)), ret_none Tryd.results36 , ?_⟩
   refine ⟨rfl, ?_⟩
   first | rw [hfh] | rw [hres]
  ·have hg89' := hg89; (try simp only [V.cnd, ne_eq] at hg89')
   refine OD.still (wants_T rfl rfl rfl lk (by first | rfl | assumption)) rfl (still_mv rfl ot) ?_
   refine OD.still (wants_T rfl rfl rfl lk (by first | rfl | assumption)) rfl (still_bin rfl ot opd_const bin_lss) ?_
   refine OD.still (wants_plain rfl) rfl (still_pickF rfl ot (by first | rfl | assumption) ot) ?_
   refine OD.wk (Wk.as_ (n := 155) (l' := [(0, _), (2, _), (6, _), (8, _), (9, _), (10, _), (92, _)]) (S' := [⟨b4, 9, 1, [_]⟩, ⟨b0, 74, 2, [_, _]⟩]) rfl rfl ⟨lk, lk, lk, lk, lk, lk, lk, trivial⟩) ?_
   refine OD.nil ?_
   refine CD.cond ot (fun hc3 => ?_) (fun hc3 => ?_)
   ·have hc3' := hc3
    (try simp only [V.cnd, ne_eq] at hc3')
    have hc2 : (idxG (keyCol key) (ops2.take 2)) < 0 ∨ (idxG litNN (ops2.take 2)) < 0 := by first | omega | (simp_all; omega) | simp_all
    have hret : leafB key ops2 nt (lo, hi) = (lo, hi) := by unfold leafB; rw [opK_at hlt2, if_neg hcnd, if_pos hc2]
    rw [hret] at hres
    refine CD.ret ?_
    refine ⟨.inr rfl, _, [⟨b0, _, _, _⟩], (by repeat (first | exact List.Sublist.refl _ | (apply List.Sublist.cons_cons; exact List.nil_sublist _) | apply List.Sublist.cons)), ret_none Tryd.results36 , ?_⟩
    refine ⟨rfl, ?_⟩
    first | rw [hfh] | rw [hres]
   ·have hc3' := hc3
    (try simp only [V.cnd, ne_eq] at hc3')
    have hc2 : ¬ ((idxG (keyCol key) (ops2.take 2)) < 0 ∨ (idxG litNN (ops2.take 2)) < 0) := by first | omega | (simp_all; omega) | simp_all
    have hLb := idxG_bd litNN (ops2.take 2)
    have hl3 : ops2.length = 3 := by omega
    rw [List.length_take] at hLb
    have hlL : (idxG litNN (ops2.take 2)).toNat < ops2.length := by omega
    have hlk : litK ops2 = (encR [ops2[(idxG litNN (ops2.take 2)).toNat].v]).1 := by unfold litK; rw [List.getD_eq_getElem?_getD, List.getElem?_eq_getElem hlL]; rfl
    have hres2 : (narF key (f + 1) ops (lo, hi)) = cutB (idxG (keyCol key) (ops2.take 2)) (ops2[ops2.length - 1].k == 6) nt (encR [ops2[(idxG litNN (ops2.take 2)).toNat].v]).1 (lo, hi) := by rw [hres]; unfold leafB; rw [opK_at hlt2, if_neg hcnd, if_neg hc2, hlk]
    have hev := enc_vp hG [ops2[(idxG litNN (ops2.take 2)).toNat].v] (by simp; omega) (fun v hv => by rw [List.mem_singleton] at hv; rw [hv]; exact hok2 _ (List.getElem_mem hlL))
    have hkl := enc_len [ops2[(idxG litNN (ops2.take 2)).toNat].v]
    unfold encD bytesL at hev
    refine CD.skip ?_
    refine CD.seq ?_
    refine CD.region ?_
    refine OD.still (wants_plain rfl) rfl (still_mv rfl ot) ?_
    refine OD.still (wants_plain rfl) rfl (still_mv rfl ot) ?_
    refine OD.still (wants_plain rfl) rfl (still_r2 (mk := Op.indexAddr 25) rfl ot ot (by first | exact ix_list Tryd.runUnderlying25 Tryd.sizeOf40 (j := (idxG litNN (ops2.take 2)).toNat) (by omega) hlL | exact ix_row Tryd.runUnderlying25 Tryd.sizeOf40 (j := (idxG litNN (ops2.take 2)).toNat) (by omega) hlL)) ?_
    refine OD.still (wants_plain rfl) rfl (still_r1 (mk := fun y => Op.fieldAddr 40 y 1) rfl ot (by first | exact fa_ptr (off := 1) Tryd.runUnderlying40 rfl Tryd.sizeOf33 rfl | exact fa_iptr (off := 1) Tryd.runUnderlying40 rfl Tryd.sizeOf33 rfl)) ?_
    refine OD.still (wants_plain rfl) rfl (still_r1 (mk := Op.load 33) rfl ot (ld_is Tryd.isAgg33 Tryd.sizeOf33 rfl (op_val hlL))) ?_
    refine OD.bldS (pl := numD 0 [_]) (zvs := [.int .i64 0, .int .i64 0, .string ⟨#[]⟩]) (ds := [_, _, _]) (wants_plain rfl) rfl rfl Tryd.zeroValue33 Tryd.runUnderlying36 Tryd.sizeOf33 rfl rfl (by kernel_rfl) ⟨rfl, ot, trivial⟩ (by exact rfl) (fill_full (by exact rfl) (by exact rfl) (by exact rfl)) (fun b99 => ?_)
    refine OD.perm (perm_q11 (S1 := [⟨b99, 33, 1 * 3, List.flatMap cV ([ops2[(idxG litNN (ops2.take 2)).toNat].v])⟩]) (A := [_, _])) ?_
    refine OD.giveL (t := 99) (Sq := [⟨b99, 33, 1 * 3, List.flatMap cV ([ops2[(idxG litNN (ops2.take 2)).toNat].v])⟩]) lk (ownL_row (g := cV) (sz := 3) (e := 33) (ls := [ops2[(idxG litNN (ops2.take 2)).toNat].v]) (Nat.le_refl _) (show 1 ≤ maxLen by decide)) (fm_len cV_len _) (perm_r11 (A := [_, _])) ?_
    refine OD.callP (wants_plain rfl) rfl rfl rfl Tryd.call17 (hev) ⟨ot, trivial⟩ ?_
    refine OD.still (wants_plain rfl) rfl (still_mv rfl ot) ?_
    refine OD.still (wants_plain rfl) rfl (still_extract rfl ot rfl) ?_
    refine OD.still (wants_plain rfl) rfl (still_extract rfl ot rfl) ?_
    refine OD.still (wants_plain rfl) rfl (still_as rfl ot) ?_
    refine OD.still (wants_plain rfl) rfl (still_as rfl ot) ?_
    refine OD.wk (Wk.as_ (n := 155) (l' := [(0, _), (2, _), (6, _), (8, _), (9, _), (11, _)]) (S' := [⟨b4, 9, 1, [_]⟩, ⟨b0, 74, 2, [_, _]⟩]) rfl rfl ⟨lk, lk, lk, lk, lk, lk, trivial⟩) ?_
    refine OD.nil ?_
    refine CD.seq ?_
    refine CD.region ?_
    refine OD.still (wants_plain rfl) rfl (still_mv rfl ot) ?_
    refine OD.still (wants_plain rfl) rfl (still_mv rfl ot) ?_
    refine OD.still (wants_plain rfl) rfl (still_r2 (mk := Op.indexAddr 25) rfl ot ot (by first | exact ix_list Tryd.runUnderlying25 Tryd.sizeOf40 (j := (ops2.length - 1)) rfl hlt2 | exact ix_row Tryd.runUnderlying25 Tryd.sizeOf40 (j := (ops2.length - 1)) rfl hlt2)) ?_
    refine OD.still (wants_plain rfl) rfl (still_r1 (mk := fun y => Op.fieldAddr 40 y 0) rfl ot (by first | exact fa_ptr (off := 0) Tryd.runUnderlying40 rfl Tryd.sizeOf3 rfl | exact fa_iptr (off := 0) Tryd.runUnderlying40 rfl Tryd.sizeOf3 rfl)) ?_
    refine OD.still (wants_plain rfl) rfl (still_r1 (mk := Op.load 3) rfl ot (by first | exact ld_blk (k := 0) rfl rfl Tryd.isAgg3 rfl | exact ld_blk (k := 1) rfl rfl Tryd.isAgg3 rfl | exact ld_fm cO_len Tryd.isAgg3 (by first | assumption | omega) rfl | exact ld_fm0 cO_len Tryd.isAgg3 (by first | assumption | omega) rfl | exact ld_row (k := 0) cO_len rfl rfl rfl Tryd.isAgg3 (by first | assumption | omega) rfl | exact ld_row0 (k := 0) cO_len rfl rfl rfl Tryd.isAgg3 (by first | assumption | omega) rfl | exact ld_row (k := 1) cO_len rfl rfl rfl Tryd.isAgg3 (by first | assumption | omega) rfl | exact ld_row0 (k := 1) cO_len rfl rfl rfl Tryd.isAgg3 (by first | assumption | omega) rfl | exact ld_i Tryd.isAgg3 rfl)) ?_
    refine OD.still (wants_plain rfl) rfl (still_bin rfl ot opd_const bin_eql) ?_
    refine OD.still (wants_plain rfl) rfl (still_as rfl ot) ?_
    refine OD.wk (Wk.as_ (n := 155) (l' := [(0, _), (8, _), (9, _), (11, _), (13, _)]) (S' := [⟨b4, 9, 1, [_]⟩, ⟨b0, 74, 2, [_, _]⟩]) rfl rfl ⟨lk, lk, lk, lk, lk, trivial⟩) ?_
    refine OD.nil ?_
    refine CD.cut (fun y__ => ∃ (b1 : BdL), (b1 = (bif (ops2[ops2.length - 1].k == 6) || (((idxG (keyCol key) (ops2.take 2)) == 0) == nt) then lowF (encR [ops2[(idxG litNN (ops2.take 2)).toNat].v]).1 (lo, hi) else (lo, hi))) ∧ (b1.1.length ≤ 100) ∧ (b1.2.length ≤ 100) ∧ y__ = (⟨155, [(0, .v (.pointer (some ⟨b0, 0, none⟩))), (8, .v (.bool nt)), (9, .v (.int .i64 (idxG (keyCol key) (ops2.take 2)))), (11, .list 1 ((encR [ops2[(idxG litNN (ops2.take 2)).toNat].v]).1.flatMap cB) (encR [ops2[(idxG litNN (ops2.take 2)).toNat].v]).1.length), (13, .v (.bool (ops2[ops2.length - 1].k == 6)))], [⟨b0, 74, 2, [.list 1 (b1.1.flatMap cB) b1.1.length, .list 1 (b1.2.flatMap cB) b1.2.length]⟩]⟩ : St)) ?_ ?_
    ·skip
     refine CD.seq ?_
     refine CD.region ?_
     refine OD.still (wants_plain rfl) rfl (still_mv rfl ot) ?_
     refine OD.still (wants_plain rfl) rfl (still_mv rfl ot) ?_
     refine OD.split (t := 110) lk (fun hg110 => ?_) (fun hg110 => ?_)
     ·have hg110' := hg110; (try simp only [V.cnd, ne_eq] at hg110')
      refine OD.skip (wants_F rfl rfl rfl lk (by first | rfl | assumption)) rfl ?_
      refine OD.skip (wants_F rfl rfl rfl lk (by first | rfl | assumption)) rfl ?_
      refine OD.skip (wants_F rfl rfl rfl lk (by first | rfl | assumption)) rfl ?_
      refine OD.skip (wants_F rfl rfl rfl lk (by first | rfl | assumption)) rfl ?_
      refine OD.still (wants_plain rfl) rfl (still_pickT rfl ot (by first | rfl | assumption) opd_const) ?_
      refine OD.wk (Wk.as_ (n := 155) (l' := [(0, _), (8, _), (9, _), (11, _), (13, _), (115, _)]) (S' := [⟨b4, 9, 1, [_]⟩, ⟨b0, 74, 2, [_, _]⟩]) rfl rfl ⟨lk, lk, lk, lk, lk, lk, trivial⟩) ?_
      refine OD.nil ?_
      refine CD.condT ot (by first | rfl | assumption) ?_
      have he1 : ((ops2[ops2.length - 1].k == 6) || (((idxG (keyCol key) (ops2.take 2)) == 0) == nt)) = true := by first | rw [hg110, Bool.true_or] | rw [hc4, Bool.or_true]
      refine CD.seq ?_
      refine CD.region ?_
      refine OD.still (wants_plain rfl) rfl (still_mv rfl ot) ?_
      refine OD.still (wants_plain rfl) rfl (still_mv rfl ot) ?_
      refine OD.still (wants_plain rfl) rfl (still_r1 (mk := Op.nilCheck) rfl ot (by first | exact nc_ptr | exact nc_iptr)) ?_
      refine OD.still (wants_plain rfl) rfl (still_r1 (mk := fun y => Op.fieldAddr 74 y 0) rfl ot (by first | exact fa_ptr (off := 0) Tryd.runUnderlying74 rfl Tryd.sizeOf47 rfl | exact fa_iptr (off := 0) Tryd.runUnderlying74 rfl Tryd.sizeOf47 rfl)) ?_
      refine OD.still (wants_plain rfl) rfl (still_r1 (mk := Op.load 47) rfl ot (by first | exact ld_blk (k := 1) rfl rfl Tryd.isAgg47 rfl | exact ld_fm cO_len Tryd.isAgg47 (by first | assumption | omega) rfl | exact ld_fm0 cO_len Tryd.isAgg47 (by first | assumption | omega) rfl | exact ld_row (k := 0) cO_len rfl rfl rfl Tryd.isAgg47 (by first | assumption | omega) rfl | exact ld_row0 (k := 0) cO_len rfl rfl rfl Tryd.isAgg47 (by first | assumption | omega) rfl | exact ld_row (k := 1) cO_len rfl rfl rfl Tryd.isAgg47 (by first | assumption | omega) rfl | exact ld_row0 (k := 1) cO_len rfl rfl rfl Tryd.isAgg47 (by first | assumption | omega) rfl | exact ld_i Tryd.isAgg47 rfl)) ?_
      refine OD.callP (wants_plain rfl) rfl rfl rfl Tryd.call56 (bcmp_vp (encR [ops2[(idxG litNN (ops2.take 2)).toNat].v]).1 lo) ⟨ot, ot, trivial⟩ ?_
      refine OD.still (wants_plain rfl) rfl (still_bin rfl ot opd_const bin_gtr) ?_
      refine OD.wk (Wk.as_ (n := 155) (l' := [(0, _), (8, _), (9, _), (11, _), (13, _), (122, _)]) (S' := [⟨b4, 9, 1, [_]⟩, ⟨b0, 74, 2, [_, _]⟩]) rfl rfl ⟨lk, lk, lk, lk, lk, lk, trivial⟩) ?_
      refine OD.nil ?_
      refine CD.cond ot (fun hc5 => ?_) (fun hc5 => ?_)
      ·have hc5' := hc5
       (try simp only [V.cnd, ne_eq] at hc5')
       have hcp : compareBytes (encR [ops2[(idxG litNN (ops2.take 2)).toNat].v]).1 lo > 0 := by simpa using hc5
       have hfb : ((encR [ops2[(idxG litNN (ops2.take 2)).toNat].v]).1, hi) = (bif (ops2[ops2.length - 1].k == 6) || (((idxG (keyCol key) (ops2.take 2)) == 0) == nt) then lowF (encR [ops2[(idxG litNN (ops2.take 2)).toNat].v]).1 (lo, hi) else (lo, hi)) := by rw [he1]; show _ = lowF _ _; unfold lowF; rw [if_pos hcp]
       refine CD.region ?_
       refine OD.still (wants_plain rfl) rfl (still_mv rfl ot) ?_
       refine OD.still (wants_plain rfl) rfl (still_mv rfl ot) ?_
       refine OD.callP (wants_plain rfl) rfl rfl rfl Tryd.call57 (clone_vp (encR [ops2[(idxG litNN (ops2.take 2)).toNat].v]).1 (by omega)) ⟨ot, trivial⟩ ?_
       refine OD.still (wants_plain rfl) rfl (still_r1 (mk := Op.nilCheck) rfl ot (by first | exact nc_ptr | exact nc_iptr)) ?_
       refine OD.still (wants_plain rfl) rfl (still_r1 (mk := fun y => Op.fieldAddr 74 y 0) rfl ot (by first | exact fa_ptr (off := 0) Tryd.runUnderlying74 rfl Tryd.sizeOf47 rfl | exact fa_iptr (off := 0) Tryd.runUnderlying74 rfl Tryd.sizeOf47 rfl)) ?_
       refine OD.store (k := 1) (cs' := [_, _]) (wants_plain rfl) rfl rfl ot rfl rfl ot rfl rfl Tryd.sizeOf47 rfl rfl rfl ?_
       refine OD.wk (Wk.as_ (n := 155) (l' := [(0, _), (8, _), (9, _), (11, _), (13, _)]) (S' := [⟨b4, 9, 1, [_]⟩, ⟨b0, 74, 2, [_, _]⟩]) rfl rfl ⟨lk, lk, lk, lk, lk, trivial⟩) ?_
       refine OD.nil ?_
       refine ⟨(⟨155, [(0, .v (.pointer (some ⟨b0, 0, none⟩))), (8, .v (.bool nt)), (9, .v (.int .i64 (idxG (keyCol key) (ops2.take 2)))), (11, .list 1 ((encR [ops2[(idxG litNN (ops2.take 2)).toNat].v]).1.flatMap cB) (encR [ops2[(idxG litNN (ops2.take 2)).toNat].v]).1.length), (13, .v (.bool (ops2[ops2.length - 1].k == 6)))], [⟨b0, 74, 2, [.list 1 ((((encR [ops2[(idxG litNN (ops2.take 2)).toNat].v]).1, hi)).1.flatMap cB) (((encR [ops2[(idxG litNN (ops2.take 2)).toNat].v]).1, hi)).1.length, .list 1 ((((encR [ops2[(idxG litNN (ops2.take 2)).toNat].v]).1, hi)).2.flatMap cB) (((encR [ops2[(idxG litNN (ops2.take 2)).toNat].v]).1, hi)).2.length]⟩]⟩ : St), Wk.asS (n := 155) rfl (by repeat (first | exact List.Sublist.refl _ | (apply List.Sublist.cons_cons; exact List.nil_sublist _) | apply List.Sublist.cons)) ⟨(by (repeat (first | exact look_hit | (apply look_at; focus (first | rfl | (simp; done) | (congr 2; omega))) | (apply look_miss; focus rfl))); done), (by (repeat (first | exact look_hit | (apply look_at; focus (first | rfl | (simp; done) | (congr 2; omega))) | (apply look_miss; focus rfl))); done), (by (repeat (first | exact look_hit | (apply look_at; focus (first | rfl | (simp; done) | (congr 2; omega))) | (apply look_miss; focus rfl))); done), (by (repeat (first | exact look_hit | (apply look_at; focus (first | rfl | (simp; done) | (congr 2; omega))) | (apply look_miss; focus rfl))); done), (by (repeat (first | exact look_hit | (apply look_at; focus (first | rfl | (simp; done) | (congr 2; omega))) | (apply look_miss; focus rfl))); done), trivial⟩, ((encR [ops2[(idxG litNN (ops2.take 2)).toNat].v]).1, hi), hfb, (by first | exact hkl | exact hlo), hhi, rfl⟩
      ·have hc5' := hc5
       (try simp only [V.cnd, ne_eq] at hc5')
       have hcp : ¬ compareBytes (encR [ops2[(idxG litNN (ops2.take 2)).toNat].v]).1 lo > 0 := by simpa using hc5
       have hfb : (lo, hi) = (bif (ops2[ops2.length - 1].k == 6) || (((idxG (keyCol key) (ops2.take 2)) == 0) == nt) then lowF (encR [ops2[(idxG litNN (ops2.take 2)).toNat].v]).1 (lo, hi) else (lo, hi)) := by rw [he1]; show _ = lowF _ _; unfold lowF; rw [if_neg hcp]
       refine CD.skip ?_
       refine ⟨(⟨155, [(0, .v (.pointer (some ⟨b0, 0, none⟩))), (8, .v (.bool nt)), (9, .v (.int .i64 (idxG (keyCol key) (ops2.take 2)))), (11, .list 1 ((encR [ops2[(idxG litNN (ops2.take 2)).toNat].v]).1.flatMap cB) (encR [ops2[(idxG litNN (ops2.take 2)).toNat].v]).1.length), (13, .v (.bool (ops2[ops2.length - 1].k == 6)))], [⟨b0, 74, 2, [.list 1 (((lo, hi)).1.flatMap cB) ((lo, hi)).1.length, .list 1 (((lo, hi)).2.flatMap cB) ((lo, hi)).2.length]⟩]⟩ : St), Wk.asS (n := 155) rfl (by repeat (first | exact List.Sublist.refl _ | (apply List.Sublist.cons_cons; exact List.nil_sublist _) | apply List.Sublist.cons)) ⟨(by (repeat (first | exact look_hit | (apply look_at; focus (first | rfl | (simp; done) | (congr 2; omega))) | (apply look_miss; focus rfl))); done), (by (repeat (first | exact look_hit | (apply look_at; focus (first | rfl | (simp; done) | (congr 2; omega))) | (apply look_miss; focus rfl))); done), (by (repeat (first | exact look_hit | (apply look_at; focus (first | rfl | (simp; done) | (congr 2; omega))) | (apply look_miss; focus rfl))); done), (by (repeat (first | exact look_hit | (apply look_at; focus (first | rfl | (simp; done) | (congr 2; omega))) | (apply look_miss; focus rfl))); done), (by (repeat (first | exact look_hit | (apply look_at; focus (first | rfl | (simp; done) | (congr 2; omega))) | (apply look_miss; focus rfl))); done), trivial⟩, (lo, hi), hfb, (by first | exact hkl | exact hlo), hhi, rfl⟩
     ·have hg110' := hg110; (try simp only [V.cnd, ne_eq] at hg110')
      refine OD.still (wants_T rfl rfl rfl lk (by first | rfl | assumption)) rfl (still_mv rfl ot) ?_
      refine OD.still (wants_T rfl rfl rfl lk (by first | rfl | assumption)) rfl (still_bin rfl ot opd_const bin_eql) ?_
      refine OD.still (wants_T rfl rfl rfl lk (by first | rfl | assumption)) rfl (still_mv rfl ot) ?_
      refine OD.still (wants_T rfl rfl rfl lk (by first | rfl | assumption)) rfl (still_bin rfl ot ot (bin_beql Tryd.underlying4)) ?_
      refine OD.still (wants_plain rfl) rfl (still_pickF rfl ot (by first | rfl | assumption) ot) ?_
      refine OD.wk (Wk.as_ (n := 155) (l' := [(0, _), (8, _), (9, _), (11, _), (13, _), (115, _)]) (S' := [⟨b4, 9, 1, [_]⟩, ⟨b0, 74, 2, [_, _]⟩]) rfl rfl ⟨lk, lk, lk, lk, lk, lk, trivial⟩) ?_
      refine OD.nil ?_
      refine CD.cond ot (fun hc4 => ?_) (fun hc4 => ?_)
      ·have hc4' := hc4
       (try simp only [V.cnd, ne_eq] at hc4')
       have he1 : ((ops2[ops2.length - 1].k == 6) || (((idxG (keyCol key) (ops2.take 2)) == 0) == nt)) = true := by first | rw [hg110, Bool.true_or] | rw [hc4, Bool.or_true]
       refine CD.seq ?_
       refine CD.region ?_
       refine OD.still (wants_plain rfl) rfl (still_mv rfl ot) ?_
       refine OD.still (wants_plain rfl) rfl (still_mv rfl ot) ?_
       refine OD.still (wants_plain rfl) rfl (still_r1 (mk := Op.nilCheck) rfl ot (by first | exact nc_ptr | exact nc_iptr)) ?_
       refine OD.still (wants_plain rfl) rfl (still_r1 (mk := fun y => Op.fieldAddr 74 y 0) rfl ot (by first | exact fa_ptr (off := 0) Tryd.runUnderlying74 rfl Tryd.sizeOf47 rfl | exact fa_iptr (off := 0) Tryd.runUnderlying74 rfl Tryd.sizeOf47 rfl)) ?_
       refine OD.still (wants_plain rfl) rfl (still_r1 (mk := Op.load 47) rfl ot (by first | exact ld_blk (k := 1) rfl rfl Tryd.isAgg47 rfl | exact ld_fm cO_len Tryd.isAgg47 (by first | assumption | omega) rfl | exact ld_fm0 cO_len Tryd.isAgg47 (by first | assumption | omega) rfl | exact ld_row (k := 0) cO_len rfl rfl rfl Tryd.isAgg47 (by first | assumption | omega) rfl | exact ld_row0 (k := 0) cO_len rfl rfl rfl Tryd.isAgg47 (by first | assumption | omega) rfl | exact ld_row (k := 1) cO_len rfl rfl rfl Tryd.isAgg47 (by first | assumption | omega) rfl | exact ld_row0 (k := 1) cO_len rfl rfl rfl Tryd.isAgg47 (by first | assumption | omega) rfl | exact ld_i Tryd.isAgg47 rfl)) ?_
       refine OD.callP (wants_plain rfl) rfl rfl rfl Tryd.call56 (bcmp_vp (encR [ops2[(idxG litNN (ops2.take 2)).toNat].v]).1 lo) ⟨ot, ot, trivial⟩ ?_
       refine OD.still (wants_plain rfl) rfl (still_bin rfl ot opd_const bin_gtr) ?_
       refine OD.wk (Wk.as_ (n := 155) (l' := [(0, _), (8, _), (9, _), (11, _), (13, _), (122, _)]) (S' := [⟨b4, 9, 1, [_]⟩, ⟨b0, 74, 2, [_, _]⟩]) rfl rfl ⟨lk, lk, lk, lk, lk, lk, trivial⟩) ?_
       refine OD.nil ?_
       refine CD.cond ot (fun hc5 => ?_) (fun hc5 => ?_)
       ·have hc5' := hc5
        (try simp only [V.cnd, ne_eq] at hc5')
        have hcp : compareBytes (encR [ops2[(idxG litNN (ops2.take 2)).toNat].v]).1 lo > 0 := by simpa using hc5
        have hfb : ((encR [ops2[(idxG litNN (ops2.take 2)).toNat].v]).1, hi) = (bif (ops2[ops2.length - 1].k == 6) || (((idxG (keyCol key) (ops2.take 2)) == 0) == nt) then lowF (encR [ops2[(idxG litNN (ops2.take 2)).toNat].v]).1 (lo, hi) else (lo, hi)) := by rw [he1]; show _ = lowF _ _; unfold lowF; rw [if_pos hcp]
        refine CD.region ?_
        refine OD.still (wants_plain rfl) rfl (still_mv rfl ot) ?_
        refine OD.still (wants_plain rfl) rfl (still_mv rfl ot) ?_
        refine OD.callP (wants_plain rfl) rfl rfl rfl Tryd.call57 (clone_vp (encR [ops2[(idxG litNN (ops2.take 2)).toNat].v]).1 (by omega)) ⟨ot, trivial⟩ ?_
        refine OD.still (wants_plain rfl) rfl (still_r1 (mk := Op.nilCheck) rfl ot (by first | exact nc_ptr | exact nc_iptr)) ?_
        refine OD.still (wants_plain rfl) rfl (still_r1 (mk := fun y => Op.fieldAddr 74 y 0) rfl ot (by first | exact fa_ptr (off := 0) Tryd.runUnderlying74 rfl Tryd.sizeOf47 rfl | exact fa_iptr (off := 0) Tryd.runUnderlying74 rfl Tryd.sizeOf47 rfl)) ?_
        refine OD.store (k := 1) (cs' := [_, _]) (wants_plain rfl) rfl rfl ot rfl rfl ot rfl rfl Tryd.sizeOf47 rfl rfl rfl ?_
        refine OD.wk (Wk.as_ (n := 155) (l' := [(0, _), (8, _), (9, _), (11, _), (13, _)]) (S' := [⟨b4, 9, 1, [_]⟩, ⟨b0, 74, 2, [_, _]⟩]) rfl rfl ⟨lk, lk, lk, lk, lk, trivial⟩) ?_
        refine OD.nil ?_
        refine ⟨(⟨155, [(0, .v (.pointer (some ⟨b0, 0, none⟩))), (8, .v (.bool nt)), (9, .v (.int .i64 (idxG (keyCol key) (ops2.take 2)))), (11, .list 1 ((encR [ops2[(idxG litNN (ops2.take 2)).toNat].v]).1.flatMap cB) (encR [ops2[(idxG litNN (ops2.take 2)).toNat].v]).1.length), (13, .v (.bool (ops2[ops2.length - 1].k == 6)))], [⟨b0, 74, 2, [.list 1 ((((encR [ops2[(idxG litNN (ops2.take 2)).toNat].v]).1, hi)).1.flatMap cB) (((encR [ops2[(idxG litNN (ops2.take 2)).toNat].v]).1, hi)).1.length, .list 1 ((((encR [ops2[(idxG litNN (ops2.take 2)).toNat].v]).1, hi)).2.flatMap cB) (((encR [ops2[(idxG litNN (ops2.take 2)).toNat].v]).1, hi)).2.length]⟩]⟩ : St), Wk.asS (n := 155) rfl (by repeat (first | exact List.Sublist.refl _ | (apply List.Sublist.cons_cons; exact List.nil_sublist _) | apply List.Sublist.cons)) ⟨(by (repeat (first | exact look_hit | (apply look_at; focus (first | rfl | (simp; done) | (congr 2; omega))) | (apply look_miss; focus rfl))); done), (by (repeat (first | exact look_hit | (apply look_at; focus (first | rfl | (simp; done) | (congr 2; omega))) | (apply look_miss; focus rfl))); done), (by (repeat (first | exact look_hit | (apply look_at; focus (first | rfl | (simp; done) | (congr 2; omega))) | (apply look_miss; focus rfl))); done), (by (repeat (first | exact look_hit | (apply look_at; focus (first | rfl | (simp; done) | (congr 2; omega))) | (apply look_miss; focus rfl))); done), (by (repeat (first | exact look_hit | (apply look_at; focus (first | rfl | (simp; done) | (congr 2; omega))) | (apply look_miss; focus rfl))); done), trivial⟩, ((encR [ops2[(idxG litNN (ops2.take 2)).toNat].v]).1, hi), hfb, (by first | exact hkl | exact hlo), hhi, rfl⟩
       ·have hc5' := hc5
        (try simp only [V.cnd, ne_eq] at hc5')
        have hcp : ¬ compareBytes (encR [ops2[(idxG litNN (ops2.take 2)).toNat].v]).1 lo > 0 := by simpa using hc5
        have hfb : (lo, hi) = (bif (ops2[ops2.length - 1].k == 6) || (((idxG (keyCol key) (ops2.take 2)) == 0) == nt) then lowF (encR [ops2[(idxG litNN (ops2.take 2)).toNat].v]).1 (lo, hi) else (lo, hi)) := by rw [he1]; show _ = lowF _ _; unfold lowF; rw [if_neg hcp]
        refine CD.skip ?_
        refine ⟨(⟨155, [(0, .v (.pointer (some ⟨b0, 0, none⟩))), (8, .v (.bool nt)), (9, .v (.int .i64 (idxG (keyCol key) (ops2.take 2)))), (11, .list 1 ((encR [ops2[(idxG litNN (ops2.take 2)).toNat].v]).1.flatMap cB) (encR [ops2[(idxG litNN (ops2.take 2)).toNat].v]).1.length), (13, .v (.bool (ops2[ops2.length - 1].k == 6)))], [⟨b0, 74, 2, [.list 1 (((lo, hi)).1.flatMap cB) ((lo, hi)).1.length, .list 1 (((lo, hi)).2.flatMap cB) ((lo, hi)).2.length]⟩]⟩ : St), Wk.asS (n := 155) rfl (by repeat (first | exact List.Sublist.refl _ | (apply List.Sublist.cons_cons; exact List.nil_sublist _) | apply List.Sublist.cons)) ⟨(by (repeat (first | exact look_hit | (apply look_at; focus (first | rfl | (simp; done) | (congr 2; omega))) | (apply look_miss; focus rfl))); done), (by (repeat (first | exact look_hit | (apply look_at; focus (first | rfl | (simp; done) | (congr 2; omega))) | (apply look_miss; focus rfl))); done), (by (repeat (first | exact look_hit | (apply look_at; focus (first | rfl | (simp; done) | (congr 2; omega))) | (apply look_miss; focus rfl))); done), (by (repeat (first | exact look_hit | (apply look_at; focus (first | rfl | (simp; done) | (congr 2; omega))) | (apply look_miss; focus rfl))); done), (by (repeat (first | exact look_hit | (apply look_at; focus (first | rfl | (simp; done) | (congr 2; omega))) | (apply look_miss; focus rfl))); done), trivial⟩, (lo, hi), hfb, (by first | exact hkl | exact hlo), hhi, rfl⟩
      ·have hc4' := hc4
       (try simp only [V.cnd, ne_eq] at hc4')
       have hfb : (lo, hi) = (bif (ops2[ops2.length - 1].k == 6) || (((idxG (keyCol key) (ops2.take 2)) == 0) == nt) then lowF (encR [ops2[(idxG litNN (ops2.take 2)).toNat].v]).1 (lo, hi) else (lo, hi)) := by rw [hg110, hc4]; rfl
       refine CD.skip ?_
       refine ⟨(⟨155, [(0, .v (.pointer (some ⟨b0, 0, none⟩))), (8, .v (.bool nt)), (9, .v (.int .i64 (idxG (keyCol key) (ops2.take 2)))), (11, .list 1 ((encR [ops2[(idxG litNN (ops2.take 2)).toNat].v]).1.flatMap cB) (encR [ops2[(idxG litNN (ops2.take 2)).toNat].v]).1.length), (13, .v (.bool (ops2[ops2.length - 1].k == 6)))], [⟨b0, 74, 2, [.list 1 (((lo, hi)).1.flatMap cB) ((lo, hi)).1.length, .list 1 (((lo, hi)).2.flatMap cB) ((lo, hi)).2.length]⟩]⟩ : St), Wk.asS (n := 155) rfl (by repeat (first | exact List.Sublist.refl _ | (apply List.Sublist.cons_cons; exact List.nil_sublist _) | apply List.Sublist.cons)) ⟨(by (repeat (first | exact look_hit | (apply look_at; focus (first | rfl | (simp; done) | (congr 2; omega))) | (apply look_miss; focus rfl))); done), (by (repeat (first | exact look_hit | (apply look_at; focus (first | rfl | (simp; done) | (congr 2; omega))) | (apply look_miss; focus rfl))); done), (by (repeat (first | exact look_hit | (apply look_at; focus (first | rfl | (simp; done) | (congr 2; omega))) | (apply look_miss; focus rfl))); done), (by (repeat (first | exact look_hit | (apply look_at; focus (first | rfl | (simp; done) | (congr 2; omega))) | (apply look_miss; focus rfl))); done), (by (repeat (first | exact look_hit | (apply look_at; focus (first | rfl | (simp; done) | (congr 2; omega))) | (apply look_miss; focus rfl))); done), trivial⟩, (lo, hi), hfb, (by first | exact hkl | exact hlo), hhi, rfl⟩
    rintro _ ⟨b1, hb1, hbl1, hbl2, rfl⟩
    refine CD.seq ?_
    refine CD.region ?_
    refine OD.still (wants_plain rfl) rfl (still_mv rfl ot) ?_
    refine OD.still (wants_plain rfl) rfl (still_mv rfl ot) ?_
    refine OD.split (t := 129) lk (fun hg129 => ?_) (fun hg129 => ?_)
    ·have hg129' := hg129; (try simp only [V.cnd, ne_eq] at hg129')
     refine OD.skip (wants_F rfl rfl rfl lk (by first | rfl | assumption)) rfl ?_
     refine OD.skip (wants_F rfl rfl rfl lk (by first | rfl | assumption)) rfl ?_
     refine OD.skip (wants_F rfl rfl rfl lk (by first | rfl | assumption)) rfl ?_
     refine OD.skip (wants_F rfl rfl rfl lk (by first | rfl | assumption)) rfl ?_
     refine OD.still (wants_plain rfl) rfl (still_pickT rfl ot (by first | rfl | assumption) opd_const) ?_
     refine OD.wk (Wk.as_ (n := 155) (l' := [(0, _), (11, _), (134, _)]) (S' := [⟨b0, 74, 2, [_, _]⟩]) rfl rfl ⟨lk, lk, lk, trivial⟩) ?_
     refine OD.nil ?_
     refine CD.condT ot (by first | rfl | assumption) ?_
     have he2 : ((ops2[ops2.length - 1].k == 6) || !(((idxG (keyCol key) (ops2.take 2)) == 0) == nt)) = true := by first | rw [hg129, Bool.true_or] | rw [hc6, Bool.or_true]
     have he3 : (narF key (f + 1) ops (lo, hi)) = highF (encR [ops2[(idxG litNN (ops2.take 2)).toNat].v]).1 b1 := by rw [hres2]; unfold cutB; rw [show ((ops2[ops2.length - 1].k == 6) || ((idxG (keyCol key) (ops2.take 2)) == 0) != nt) = true from he2, ← hb1]; rfl
     refine CD.seq ?_
     refine CD.region ?_
     refine OD.still (wants_plain rfl) rfl (still_mv rfl ot) ?_
     refine OD.still (wants_plain rfl) rfl (still_r1 (mk := Op.nilCheck) rfl ot (by first | exact nc_ptr | exact nc_iptr)) ?_
     refine OD.still (wants_plain rfl) rfl (still_r1 (mk := fun y => Op.fieldAddr 74 y 1) rfl ot (by first | exact fa_ptr (off := 1) Tryd.runUnderlying74 rfl Tryd.sizeOf47 rfl | exact fa_iptr (off := 1) Tryd.runUnderlying74 rfl Tryd.sizeOf47 rfl)) ?_
     refine OD.still (wants_plain rfl) rfl (still_r1 (mk := Op.load 47) rfl ot (by first | exact ld_blk (k := 0) rfl rfl Tryd.isAgg47 rfl | exact ld_fm cO_len Tryd.isAgg47 (by first | assumption | omega) rfl | exact ld_fm0 cO_len Tryd.isAgg47 (by first | assumption | omega) rfl | exact ld_row (k := 0) cO_len rfl rfl rfl Tryd.isAgg47 (by first | assumption | omega) rfl | exact ld_row0 (k := 0) cO_len rfl rfl rfl Tryd.isAgg47 (by first | assumption | omega) rfl | exact ld_i Tryd.isAgg47 rfl)) ?_
     refine OD.still (wants_plain rfl) rfl (still_r1 (mk := fun y => .call { callee := .builtin .len, args := #[y], argTypes := #[47] }) rfl ot (by first | exact len_list rfl Tryd.runUnderlying47 | exact len_row rfl Tryd.runUnderlying47)) ?_
     refine OD.still (wants_plain rfl) rfl (still_bin rfl ot opd_const bin_eql) ?_
     refine OD.still (wants_plain rfl) rfl (still_mv rfl ot) ?_
     refine OD.split (t := 141) lk (fun hg141 => ?_) (fun hg141 => ?_)
     ·have hg141' := hg141; (try simp only [V.cnd, ne_eq] at hg141')
      refine OD.skip (wants_F rfl rfl rfl lk (by first | rfl | assumption)) rfl ?_
      refine OD.skip (wants_F rfl rfl rfl lk (by first | rfl | assumption)) rfl ?_
      refine OD.skip (wants_F rfl rfl rfl lk (by first | rfl | assumption)) rfl ?_
      refine OD.skip (wants_F rfl rfl rfl lk (by first | rfl | assumption)) rfl ?_
      refine OD.skip (wants_F rfl rfl rfl lk (by first | rfl | assumption)) rfl ?_
      refine OD.skip (wants_F rfl rfl rfl lk (by first | rfl | assumption)) rfl ?_
      refine OD.skip (wants_F rfl rfl rfl lk (by first | rfl | assumption)) rfl ?_
      refine OD.still (wants_plain rfl) rfl (still_pickT rfl ot (by first | rfl | assumption) opd_const) ?_
      refine OD.wk (Wk.as_ (n := 155) (l' := [(0, _), (11, _), (149, _)]) (S' := [⟨b0, 74, 2, [_, _]⟩]) rfl rfl ⟨lk, lk, lk, trivial⟩) ?_
      refine OD.nil ?_
      refine CD.condT ot (by first | rfl | assumption) ?_
      have hcq : b1.2.length = 0 ∨ compareBytes (encR [ops2[(idxG litNN (ops2.take 2)).toNat].v]).1 b1.2 < 0 := by first | exact .inl (by omega) | exact .inr (by simpa using hc7)
      have hfh : (narF key (f + 1) ops (lo, hi)) = (b1.1, (encR [ops2[(idxG litNN (ops2.take 2)).toNat].v]).1) := by rw [he3]; unfold highF; rw [if_pos hcq]
      refine CD.region ?_
      refine OD.still (wants_plain rfl) rfl (still_mv rfl ot) ?_
      refine OD.still (wants_plain rfl) rfl (still_mv rfl ot) ?_
      refine OD.callP (wants_plain rfl) rfl rfl rfl Tryd.call57 (clone_vp (encR [ops2[(idxG litNN (ops2.take 2)).toNat].v]).1 (by omega)) ⟨ot, trivial⟩ ?_
      refine OD.still (wants_plain rfl) rfl (still_r1 (mk := Op.nilCheck) rfl ot (by first | exact nc_ptr | exact nc_iptr)) ?_
      refine OD.still (wants_plain rfl) rfl (still_r1 (mk := fun y => Op.fieldAddr 74 y 1) rfl ot (by first | exact fa_ptr (off := 1) Tryd.runUnderlying74 rfl Tryd.sizeOf47 rfl | exact fa_iptr (off := 1) Tryd.runUnderlying74 rfl Tryd.sizeOf47 rfl)) ?_
      refine OD.store (k := 0) (cs' := [_, _]) (wants_plain rfl) rfl rfl ot rfl rfl ot rfl rfl Tryd.sizeOf47 rfl rfl rfl ?_
      refine OD.wk (Wk.as_ (n := 155) (l' := []) (S' := [⟨b0, 74, 2, [_, _]⟩]) rfl rfl trivial) ?_
      refine OD.nil ?_
      refine ⟨.inl rfl, _, [⟨b0, _, _, _⟩], (by repeat (first | exact List.Sublist.refl _ | (apply List.Sublist.cons_cons; exact List.nil_sublist _) | apply List.Sublist.cons)), ret_none Tryd.results36 , ?_⟩
      refine ⟨rfl, ?_⟩
      first | rw [hfh] | rw [hres]
     ·have hg141' := hg141; (try simp only [V.cnd, ne_eq] at hg141')
      refine OD.still (wants_T rfl rfl rfl lk (by first | rfl | assumption)) rfl (still_mv rfl ot) ?_
      refine OD.still (wants_T rfl rfl rfl lk (by first | rfl | assumption)) rfl (still_mv rfl ot) ?_
      refine OD.still (wants_T rfl rfl rfl lk (by first | rfl | assumption)) rfl (still_r1 (mk := Op.nilCheck) rfl ot (by first | exact nc_ptr | exact nc_iptr)) ?_
      refine OD.still (wants_T rfl rfl rfl lk (by first | rfl | assumption)) rfl (still_r1 (mk := fun y => Op.fieldAddr 74 y 1) rfl ot (by first | exact fa_ptr (off := 1) Tryd.runUnderlying74 rfl Tryd.sizeOf47 rfl | exact fa_iptr (off := 1) Tryd.runUnderlying74 rfl Tryd.sizeOf47 rfl)) ?_
      refine OD.still (wants_T rfl rfl rfl lk (by first | rfl | assumption)) rfl (still_r1 (mk := Op.load 47) rfl ot (by first | exact ld_blk (k := 0) rfl rfl Tryd.isAgg47 rfl | exact ld_fm cO_len Tryd.isAgg47 (by first | assumption | omega) rfl | exact ld_fm0 cO_len Tryd.isAgg47 (by first | assumption | omega) rfl | exact ld_row (k := 0) cO_len rfl rfl rfl Tryd.isAgg47 (by first | assumption | omega) rfl | exact ld_row0 (k := 0) cO_len rfl rfl rfl Tryd.isAgg47 (by first | assumption | omega) rfl | exact ld_i Tryd.isAgg47 rfl)) ?_
      refine OD.callP (wants_T rfl rfl rfl lk (by first | rfl | assumption)) rfl rfl rfl Tryd.call56 (bcmp_vp (encR [ops2[(idxG litNN (ops2.take 2)).toNat].v]).1 b1.2) ⟨ot, ot, trivial⟩ ?_
      refine OD.still (wants_T rfl rfl rfl lk (by first | rfl | assumption)) rfl (still_bin rfl ot opd_const bin_lss) ?_
      refine OD.still (wants_plain rfl) rfl (still_pickF rfl ot (by first | rfl | assumption) ot) ?_
      refine OD.wk (Wk.as_ (n := 155) (l' := [(0, _), (11, _), (149, _)]) (S' := [⟨b0, 74, 2, [_, _]⟩]) rfl rfl ⟨lk, lk, lk, trivial⟩) ?_
      refine OD.nil ?_
      refine CD.cond ot (fun hc7 => ?_) (fun hc7 => ?_)
      ·have hc7' := hc7
       (try simp only [V.cnd, ne_eq] at hc7')
       have hcq : b1.2.length = 0 ∨ compareBytes (encR [ops2[(idxG litNN (ops2.take 2)).toNat].v]).1 b1.2 < 0 := by first | exact .inl (by omega) | exact .inr (by simpa using hc7)
       have hfh : (narF key (f + 1) ops (lo, hi)) = (b1.1, (encR [ops2[(idxG litNN (ops2.take 2)).toNat].v]).1) := by rw [he3]; unfold highF; rw [if_pos hcq]
       refine CD.region ?_
       refine OD.still (wants_plain rfl) rfl (still_mv rfl ot) ?_
       refine OD.still (wants_plain rfl) rfl (still_mv rfl ot) ?_
       refine OD.callP (wants_plain rfl) rfl rfl rfl Tryd.call57 (clone_vp (encR [ops2[(idxG litNN (ops2.take 2)).toNat].v]).1 (by omega)) ⟨ot, trivial⟩ ?_
       refine OD.still (wants_plain rfl) rfl (still_r1 (mk := Op.nilCheck) rfl ot (by first | exact nc_ptr | exact nc_iptr)) ?_
       refine OD.still (wants_plain rfl) rfl (still_r1 (mk := fun y => Op.fieldAddr 74 y 1) rfl ot (by first | exact fa_ptr (off := 1) Tryd.runUnderlying74 rfl Tryd.sizeOf47 rfl | exact fa_iptr (off := 1) Tryd.runUnderlying74 rfl Tryd.sizeOf47 rfl)) ?_
       refine OD.store (k := 0) (cs' := [_, _]) (wants_plain rfl) rfl rfl ot rfl rfl ot rfl rfl Tryd.sizeOf47 rfl rfl rfl ?_
       refine OD.wk (Wk.as_ (n := 155) (l' := []) (S' := [⟨b0, 74, 2, [_, _]⟩]) rfl rfl trivial) ?_
       refine OD.nil ?_
       refine ⟨.inl rfl, _, [⟨b0, _, _, _⟩], (by repeat (first | exact List.Sublist.refl _ | (apply List.Sublist.cons_cons; exact List.nil_sublist _) | apply List.Sublist.cons)), ret_none Tryd.results36 , ?_⟩
       refine ⟨rfl, ?_⟩
       first | rw [hfh] | rw [hres]
      ·have hc7' := hc7
       (try simp only [V.cnd, ne_eq] at hc7')
       have hcq : ¬ (b1.2.length = 0 ∨ compareBytes (encR [ops2[(idxG litNN (ops2.take 2)).toNat].v]).1 b1.2 < 0) := by (have hcr : ¬ compareBytes (encR [ops2[(idxG litNN (ops2.take 2)).toNat].v]).1 b1.2 < 0 := by simpa using hc7); omega
       have hfh : (narF key (f + 1) ops (lo, hi)) = b1 := by rw [he3]; unfold highF; rw [if_neg hcq]
       refine CD.skip ?_
       refine ⟨.inl rfl, _, [⟨b0, _, _, _⟩], (by repeat (first | exact List.Sublist.refl _ | (apply List.Sublist.cons_cons; exact List.nil_sublist _) | apply List.Sublist.cons)), ret_none Tryd.results36 , ?_⟩
       refine ⟨rfl, ?_⟩
       first | rw [hfh] | rw [hres]
    ·have hg129' := hg129; (try simp only [V.cnd, ne_eq] at hg129')
     refine OD.still (wants_T rfl rfl rfl lk (by first | rfl | assumption)) rfl (still_mv rfl ot) ?_
     refine OD.still (wants_T rfl rfl rfl lk (by first | rfl | assumption)) rfl (still_bin rfl ot opd_const bin_eql) ?_
     refine OD.still (wants_T rfl rfl rfl lk (by first | rfl | assumption)) rfl (still_mv rfl ot) ?_
     refine OD.still (wants_T rfl rfl rfl lk (by first | rfl | assumption)) rfl (still_bin rfl ot ot (bin_bneq Tryd.underlying4)) ?_
     refine OD.still (wants_plain rfl) rfl (still_pickF rfl ot (by first | rfl | assumption) ot) ?_
     refine OD.wk (Wk.as_ (n := 155) (l' := [(0, _), (11, _), (134, _)]) (S' := [⟨b0, 74, 2, [_, _]⟩]) rfl rfl ⟨lk, lk, lk, trivial⟩) ?_
     refine OD.nil ?_
     refine CD.cond ot (fun hc6 => ?_) (fun hc6 => ?_)
     ·have hc6' := hc6
      (try simp only [V.cnd, ne_eq] at hc6')
      have he2 : ((ops2[ops2.length - 1].k == 6) || !(((idxG (keyCol key) (ops2.take 2)) == 0) == nt)) = true := by first | rw [hg129, Bool.true_or] | rw [hc6, Bool.or_true]
      have he3 : (narF key (f + 1) ops (lo, hi)) = highF (encR [ops2[(idxG litNN (ops2.take 2)).toNat].v]).1 b1 := by rw [hres2]; unfold cutB; rw [show ((ops2[ops2.length - 1].k == 6) || ((idxG (keyCol key) (ops2.take 2)) == 0) != nt) = true from he2, ← hb1]; rfl
      refine CD.seq ?_
      refine CD.region ?_
      refine OD.still (wants_plain rfl) rfl (still_mv rfl ot) ?_
      refine OD.still (wants_plain rfl) rfl (still_r1 (mk := Op.nilCheck) rfl ot (by first | exact nc_ptr | exact nc_iptr)) ?_
      refine OD.still (wants_plain rfl) rfl (still_r1 (mk := fun y => Op.fieldAddr 74 y 1) rfl ot (by first | exact fa_ptr (off := 1) Tryd.runUnderlying74 rfl Tryd.sizeOf47 rfl | exact fa_iptr (off := 1) Tryd.runUnderlying74 rfl Tryd.sizeOf47 rfl)) ?_
      refine OD.still (wants_plain rfl) rfl (still_r1 (mk := Op.load 47) rfl ot (by first | exact ld_blk (k := 0) rfl rfl Tryd.isAgg47 rfl | exact ld_fm cO_len Tryd.isAgg47 (by first | assumption | omega) rfl | exact ld_fm0 cO_len Tryd.isAgg47 (by first | assumption | omega) rfl | exact ld_row (k := 0) cO_len rfl rfl rfl Tryd.isAgg47 (by first | assumption | omega) rfl | exact ld_row0 (k := 0) cO_len rfl rfl rfl Tryd.isAgg47 (by first | assumption | omega) rfl | exact ld_i Tryd.isAgg47 rfl)) ?_
      refine OD.still (wants_plain rfl) rfl (still_r1 (mk := fun y => .call { callee := .builtin .len, args := #[y], argTypes := #[47] }) rfl ot (by first | exact len_list rfl Tryd.runUnderlying47 | exact len_row rfl Tryd.runUnderlying47)) ?_
      refine OD.still (wants_plain rfl) rfl (still_bin rfl ot opd_const bin_eql) ?_
      refine OD.still (wants_plain rfl) rfl (still_mv rfl ot) ?_
      refine OD.split (t := 141) lk (fun hg141 => ?_) (fun hg141 => ?_)
      ·have hg141' := hg141; (try simp only [V.cnd, ne_eq] at hg141')
       refine OD.skip (wants_F rfl rfl rfl lk (by first | rfl | assumption)) rfl ?_
       refine OD.skip (wants_F rfl rfl rfl lk (by first | rfl | assumption)) rfl ?_
       refine OD.skip (wants_F rfl rfl rfl lk (by first | rfl | assumption)) rfl ?_
       refine OD.skip (wants_F rfl rfl rfl lk (by first | rfl | assumption)) rfl ?_
       refine OD.skip (wants_F rfl rfl rfl lk (by first | rfl | assumption)) rfl ?_
       refine OD.skip (wants_F rfl rfl rfl lk (by first | rfl | assumption)) rfl ?_
       refine OD.skip (wants_F rfl rfl rfl lk (by first | rfl | assumption)) rfl ?_
       refine OD.still (wants_plain rfl) rfl (still_pickT rfl ot (by first | rfl | assumption) opd_const) ?_
       refine OD.wk (Wk.as_ (n := 155) (l' := [(0, _), (11, _), (149, _)]) (S' := [⟨b0, 74, 2, [_, _]⟩]) rfl rfl ⟨lk, lk, lk, trivial⟩) ?_
       refine OD.nil ?_
       refine CD.condT ot (by first | rfl | assumption) ?_
       have hcq : b1.2.length = 0 ∨ compareBytes (encR [ops2[(idxG litNN (ops2.take 2)).toNat].v]).1 b1.2 < 0 := by first | exact .inl (by omega) | exact .inr (by simpa using hc7)
       have hfh : (narF key (f + 1) ops (lo, hi)) = (b1.1, (encR [ops2[(idxG litNN (ops2.take 2)).toNat].v]).1) := by rw [he3]; unfold highF; rw [if_pos hcq]
       refine CD.region ?_
       refine OD.still (wants_plain rfl) rfl (still_mv rfl ot) ?_
       refine OD.still (wants_plain rfl) rfl (still_mv rfl ot) ?_
       refine OD.callP (wants_plain rfl) rfl rfl rfl Tryd.call57 (clone_vp (encR [ops2[(idxG litNN (ops2.take 2)).toNat].v]).1 (by omega)) ⟨ot, trivial⟩ ?_
       refine OD.still (wants_plain rfl) rfl (still_r1 (mk := Op.nilCheck) rfl ot (by first | exact nc_ptr | exact nc_iptr)) ?_
       refine OD.still (wants_plain rfl) rfl (still_r1 (mk := fun y => Op.fieldAddr 74 y 1) rfl ot (by first | exact fa_ptr (off := 1) Tryd.runUnderlying74 rfl Tryd.sizeOf47 rfl | exact fa_iptr (off := 1) Tryd.runUnderlying74 rfl Tryd.sizeOf47 rfl)) ?_
       refine OD.store (k := 0) (cs' := [_, _]) (wants_plain rfl) rfl rfl ot rfl rfl ot rfl rfl Tryd.sizeOf47 rfl rfl rfl ?_
       refine OD.wk (Wk.as_ (n := 155) (l' := []) (S' := [⟨b0, 74, 2, [_, _]⟩]) rfl rfl trivial) ?_
       refine OD.nil ?_
       refine ⟨.inl rfl, _, [⟨b0, _, _, _⟩], (by repeat (first | exact List.Sublist.refl _ | (apply List.Sublist.cons_cons; exact List.nil_sublist _) | apply List.Sublist.cons)), ret_none Tryd.results36 , ?_⟩
       refine ⟨rfl, ?_⟩
       first | rw [hfh] | rw [hres]
      ·have hg141' := hg141; (try simp only [V.cnd, ne_eq] at hg141')
       refine OD.still (wants_T rfl rfl rfl lk (by first | rfl | assumption)) rfl (still_mv rfl ot) ?_
       refine OD.still (wants_T rfl rfl rfl lk (by first | rfl | assumption)) rfl (still_mv rfl ot) ?_
       refine OD.still (wants_T rfl rfl rfl lk (by first | rfl | assumption)) rfl (still_r1 (mk := Op.nilCheck) rfl ot (by first | exact nc_ptr | exact nc_iptr)) ?_
       refine OD.still (wants_T rfl rfl rfl lk (by first | rfl | assumption)) rfl (still_r1 (mk := fun y => Op.fieldAddr 74 y 1) rfl ot (by first | exact fa_ptr (off := 1) Tryd.runUnderlying74 rfl Tryd.sizeOf47 rfl | exact fa_iptr (off := 1) Tryd.runUnderlying74 rfl Tryd.sizeOf47 rfl)) ?_
       refine OD.still (wants_T rfl rfl rfl lk (by first | rfl | assumption)) rfl (still_r1 (mk := Op.load 47) rfl ot (by first | exact ld_blk (k := 0) rfl rfl Tryd.isAgg47 rfl | exact ld_fm cO_len Tryd.isAgg47 (by first | assumption | omega) rfl | exact ld_fm0 cO_len Tryd.isAgg47 (by first | assumption | omega) rfl | exact ld_row (k := 0) cO_len rfl rfl rfl Tryd.isAgg47 (by first | assumption | omega) rfl | exact ld_row0 (k := 0) cO_len rfl rfl rfl Tryd.isAgg47 (by first | assumption | omega) rfl | exact ld_i Tryd.isAgg47 rfl)) ?_
       refine OD.callP (wants_T rfl rfl rfl lk (by first | rfl | assumption)) rfl rfl rfl Tryd.call56 (bcmp_vp (encR [ops2[(idxG litNN (ops2.take 2)).toNat].v]).1 b1.2) ⟨ot, ot, trivial⟩ ?_
       refine OD.still (wants_T rfl rfl rfl lk (by first | rfl | assumption)) rfl (still_bin rfl ot opd_const bin_lss) ?_
       refine OD.still (wants_plain rfl) rfl (still_pickF rfl ot (by first | rfl | assumption) ot) ?_
       refine OD.wk (Wk.as_ (n := 155) (l' := [(0, _), (11, _), (149, _)]) (S' := [⟨b0, 74, 2, [_, _]⟩]) rfl rfl ⟨lk, lk, lk, trivial⟩) ?_
       refine OD.nil ?_
       refine CD.cond ot (fun hc7 => ?_) (fun hc7 => ?_)
       ·have hc7' := hc7
        (try simp only [V.cnd, ne_eq] at hc7')
        have hcq : b1.2.length = 0 ∨ compareBytes (encR [ops2[(idxG litNN (ops2.take 2)).toNat].v]).1 b1.2 < 0 := by first | exact .inl (by omega) | exact .inr (by simpa using hc7)
        have hfh : (narF key (f + 1) ops (lo, hi)) = (b1.1, (encR [ops2[(idxG litNN (ops2.take 2)).toNat].v]).1) := by rw [he3]; unfold highF; rw [if_pos hcq]
        refine CD.region ?_
        refine OD.still (wants_plain rfl) rfl (still_mv rfl ot) ?_
        refine OD.still (wants_plain rfl) rfl (still_mv rfl ot) ?_
        refine OD.callP (wants_plain rfl) rfl rfl rfl Tryd.call57 (clone_vp (encR [ops2[(idxG litNN (ops2.take 2)).toNat].v]).1 (by omega)) ⟨ot, trivial⟩ ?_
        refine OD.still (wants_plain rfl) rfl (still_r1 (mk := Op.nilCheck) rfl ot (by first | exact nc_ptr | exact nc_iptr)) ?_
        refine OD.still (wants_plain rfl) rfl (still_r1 (mk := fun y => Op.fieldAddr 74 y 1) rfl ot (by first | exact fa_ptr (off := 1) Tryd.runUnderlying74 rfl Tryd.sizeOf47 rfl | exact fa_iptr (off := 1) Tryd.runUnderlying74 rfl Tryd.sizeOf47 rfl)) ?_
        refine OD.store (k := 0) (cs' := [_, _]) (wants_plain rfl) rfl rfl ot rfl rfl ot rfl rfl Tryd.sizeOf47 rfl rfl rfl ?_
        refine OD.wk (Wk.as_ (n := 155) (l' := []) (S' := [⟨b0, 74, 2, [_, _]⟩]) rfl rfl trivial) ?_
        refine OD.nil ?_
        refine ⟨.inl rfl, _, [⟨b0, _, _, _⟩], (by repeat (first | exact List.Sublist.refl _ | (apply List.Sublist.cons_cons; exact List.nil_sublist _) | apply List.Sublist.cons)), ret_none Tryd.results36 , ?_⟩
        refine ⟨rfl, ?_⟩
        first | rw [hfh] | rw [hres]
       ·have hc7' := hc7
        (try simp only [V.cnd, ne_eq] at hc7')
        have hcq : ¬ (b1.2.length = 0 ∨ compareBytes (encR [ops2[(idxG litNN (ops2.take 2)).toNat].v]).1 b1.2 < 0) := by (have hcr : ¬ compareBytes (encR [ops2[(idxG litNN (ops2.take 2)).toNat].v]).1 b1.2 < 0 := by simpa using hc7); omega
        have hfh : (narF key (f + 1) ops (lo, hi)) = b1 := by rw [he3]; unfold highF; rw [if_neg hcq]
        refine CD.skip ?_
        refine ⟨.inl rfl, _, [⟨b0, _, _, _⟩], (by repeat (first | exact List.Sublist.refl _ | (apply List.Sublist.cons_cons; exact List.nil_sublist _) | apply List.Sublist.cons)), ret_none Tryd.results36 , ?_⟩
        refine ⟨rfl, ?_⟩
        first | rw [hfh] | rw [hres]
     ·have hc6' := hc6
      (try simp only [V.cnd, ne_eq] at hc6')
      have he2 : ((ops2[ops2.length - 1].k == 6) || !(((idxG (keyCol key) (ops2.take 2)) == 0) == nt)) = false := by rw [hg129, hc6]; rfl
      have hfh : (narF key (f + 1) ops (lo, hi)) = b1 := by rw [hres2]; unfold cutB; rw [show ((ops2[ops2.length - 1].k == 6) || ((idxG (keyCol key) (ops2.take 2)) == 0) != nt) = false from he2, ← hb1]; rfl
      refine CD.skip ?_
      refine ⟨.inl rfl, _, [⟨b0, _, _, _⟩], (by repeat (first | exact List.Sublist.refl _ | (apply List.Sublist.cons_cons; exact List.nil_sublist _) | apply List.Sublist.cons)), ret_none Tryd.results36 , ?_⟩
      refine ⟨rfl, ?_⟩
      first | rw [hfh] | rw [hres]

theorem nar_vc (hG : (1, [Value.int .i64 m]) ∈ G) (key : ByteArray) : ∀ (f : Nat), f ≤ 40 → ∀ (ops : List OpL) (lo hi : List UInt8), ops.length ≤ f → runs 0 ops = some 1 → (∀ o ∈ ops, o.v.Ok) → lo.length ≤ 100 → hi.length ≤ 100 → ∀ b0, VC Tryd.prog G 36 [.v (.pointer (some ⟨b0, 0, none⟩)), .v (.string key), .list 5 (ops.flatMap cO) ops.length] [⟨b0, 74, 2, [.list 1 (lo.flatMap cB) lo.length, .list 1 (hi.flatMap cB) hi.length]⟩] (fun r S => r = .tup [] ∧ S = [⟨b0, 74, 2, [.list 1 ((narF key f ops (lo, hi)).1.flatMap cB) (narF key f ops (lo, hi)).1.length, .list 1 ((narF key f ops (lo, hi)).2.flatMap cB) (narF key f ops (lo, hi)).2.length]⟩]) := by
 intro f
 induction f with
 | zero =>
  intro _ ops lo hi hl hr
  have := runs_pos hr
  omega
 | succ f IH =>
  intro hf ops lo hi hl hr hok hlo hhi b0
  exact nar_step hG key f (by omega) (IH (by omega)) ops lo hi hl (by omega) hr hok hlo hhi b0
/-- What expr.Bounds answers. -/
def boundsR (l : List ColL) (ops : List OpL) : BdL × Int :=
  if colsF l ≠ 0 then (([], []), colsF l) else if ops.length = 0 then (([], []), 0) else if (kindR l ops).2 ≠ 0 then (([], []), (kindR l ops).2)
  else if (kindR l ops).1 ≠ 1 ∧ (kindR l ops).1 ≠ 0 then (([], []), 4) else (narF (l.getD 0 ⟨⟨#[]⟩, 0⟩).n ops.length ops ([], []), 0)
def bdD (r : BdL × Int) : D := .tup [bytesL r.1.1, bytesL r.1.2, .v (.int .i64 r.2)]
theorem cols_pos {l : List ColL} (h : colsF l = 0) : 0 < l.length := by
 unfold colsF at h
 split at h
 ·cases h
 ·omega
theorem expr_runs1 {ops : List OpL} (h : exprF ops = 0) : runs 0 ops = some 1 := by
  obtain ⟨_, h0⟩ := expr_ok h
  have key : ∀ (l : List OpL) (k : Int), exprL k l = 0 → runs k l = some 1 := by
    intro l
    induction l with
    | nil => intro k h; rw [exprL] at h; split at h; · rename_i e; rw [runs, e]
             · cases h
    | cons o r ih =>
      intro k h
      rw [exprL] at h
      split at h
      · rename_i e; rw [runs, if_pos e]; exact ih _ h
      · rename_i e; exact absurd h e
  exact key ops 0 h0

theorem places74_Ex8 : ∀ w, ((#[{ name := "low", type := 47, offset := 0, embedded := false, tag := "", pkgPath := "padlock/expr", byteOffset := 0 }, { name := "high", type := 47, offset := 1, embedded := false, tag := "", pkgPath := "padlock/expr", byteOffset := 24 }] : Array Field).mapM fun f => do pure (f.offset, ← sizeOf f.type) : Sem (Array (Nat × Nat))).run Tryd.prog w = .ok #[(0, 1), (1, 1)] w := fun w => by simp [Tryd.sizeOf47]

set_option maxHeartbeats 4000000 in
set_option maxRecDepth 100000 in
theorem Bounds_vp (hm : (3, marksC) ∈ G) (hw : (0, wordsC) ∈ G) (ht : (2, typesC) ∈ G) (hG : (1, [Value.int .i64 m]) ∈ G) (l : List ColL) (hl : l.length ≤ 1000) (hcok : ∀ c ∈ l, c.n.size ≤ maxLen) (ops : List OpL) (ho : ∀ o ∈ ops, o.nm.size ≤ maxLen) (hok : ∀ o ∈ ops, o.v.Ok) : VP Tryd.prog G 16 [.list 2 (l.flatMap cC) l.length, .list 5 (ops.flatMap cO) ops.length] (bdD (boundsR l ops)) := by
 refine VC.body Tryd.func16 rfl Tryd.ntmps16 (Nat.le_of_ble_eq_true rfl) fun X0 w0 S00 => ?_
 have hmx : maxLen = 9223372036854775807 := rfl
 have hcv := Cols_vp hm hw ht l (by omega) hcok
 have hkv := kind_vp hm hw ht l hl hcok ops ho
 unfold twoI at hkv
 unfold bdD bytesL
 refine CD.seq ?_
 refine CD.region ?_
 refine OD.still (wants_plain rfl) rfl (still_as rfl opd_const) ?_
 refine OD.still (wants_plain rfl) rfl (still_as rfl opd_const) ?_
 refine OD.still (wants_plain rfl) rfl (still_as rfl opd_const) ?_
 refine OD.wk (Wk.as_ (n := 50) (l' := [(0, _), (1, _)]) (S' := []) rfl rfl ⟨lk, lk, trivial⟩) ?_
 refine OD.nil ?_
 refine CD.seq ?_
 refine CD.seq ?_
 refine CD.region ?_
 refine OD.still (wants_plain rfl) rfl (still_mv rfl ot) ?_
 refine OD.callP (wants_plain rfl) rfl rfl rfl Tryd.call35 (hcv) ⟨ot, trivial⟩ ?_
 refine OD.still (wants_plain rfl) rfl (still_as rfl ot) ?_
 refine OD.wk (Wk.as_ (n := 50) (l' := [(0, _), (1, _), (7, _)]) (S' := []) rfl rfl ⟨lk, lk, lk, trivial⟩) ?_
 refine OD.nil ?_
 refine CD.seq ?_
 refine CD.region ?_
 refine OD.still (wants_plain rfl) rfl (still_mv rfl ot) ?_
 refine OD.still (wants_plain rfl) rfl (still_bin rfl ot opd_const bin_neq) ?_
 refine OD.wk (Wk.as_ (n := 50) (l' := [(0, _), (1, _), (7, _), (13, _)]) (S' := []) rfl rfl ⟨lk, lk, lk, lk, trivial⟩) ?_
 refine OD.nil ?_
 refine CD.cond ot (fun hc0 => ?_) (fun hc0 => ?_)
 ·have hc0' := hc0
  (try simp only [V.cnd, ne_eq] at hc0')
  have h0 : colsF l ≠ 0 := by simpa using hc0
  have hres : boundsR l ops = (([], []), colsF l) := by unfold boundsR; rw [if_pos h0]
  refine CD.seq ?_
  refine CD.region ?_
  refine OD.still (wants_plain rfl) rfl (still_mv rfl ot) ?_
  refine OD.still (wants_plain rfl) rfl (still_as rfl opd_const) ?_
  refine OD.still (wants_plain rfl) rfl (still_as rfl opd_const) ?_
  refine OD.still (wants_plain rfl) rfl (still_as rfl ot) ?_
  refine OD.wk (Wk.as_ (n := 50) (l' := [(4, _), (5, _), (6, _)]) (S' := []) rfl rfl ⟨lk, lk, lk, trivial⟩) ?_
  refine OD.nil ?_
  refine CD.wk (Wk.giveNil (t := 4) (sz := 1) lk) ?_
  refine CD.wk (Wk.giveNil (t := 5) (sz := 1) lk) ?_
  refine CD.ret ?_
  refine ⟨.inr rfl, _, [], List.nil_sublist _, ret_three Tryd.results16 (res_tmp (Nat.le_of_ble_eq_true rfl) lk) (res_tmp (Nat.le_of_ble_eq_true rfl) lk) (res_tmp (Nat.le_of_ble_eq_true rfl) lk), ?_⟩
  rw [hres]; exact ⟨rfl, rfl⟩
 ·have hc0' := hc0
  (try simp only [V.cnd, ne_eq] at hc0')
  have h0 : ¬ colsF l ≠ 0 := by simpa using hc0
  have h0p := cols_pos (Classical.not_not.1 h0)
  refine CD.skip ?_
  refine CD.seq ?_
  refine CD.seq ?_
  refine CD.region ?_
  refine OD.still (wants_plain rfl) rfl (still_mv rfl ot) ?_
  refine OD.still (wants_plain rfl) rfl (still_r1 (mk := fun y => .call { callee := .builtin .len, args := #[y], argTypes := #[25] }) rfl ot (by first | exact len_list rfl Tryd.runUnderlying25 | exact len_row rfl Tryd.runUnderlying25)) ?_
  refine OD.still (wants_plain rfl) rfl (still_bin rfl ot opd_const bin_eql) ?_
  refine OD.wk (Wk.as_ (n := 50) (l' := [(0, _), (1, _), (17, _)]) (S' := []) rfl rfl ⟨lk, lk, lk, trivial⟩) ?_
  refine OD.nil ?_
  refine CD.cond ot (fun hc1 => ?_) (fun hc1 => ?_)
  ·have hc1' := hc1
   (try simp only [V.cnd, ne_eq] at hc1')
   have h1 : ops.length = 0 := by simpa using hc1
   have hres : boundsR l ops = (([], []), 0) := by unfold boundsR; rw [if_neg h0, if_pos h1]
   refine CD.seq ?_
   refine CD.region ?_
   refine OD.still (wants_plain rfl) rfl (still_as rfl opd_const) ?_
   refine OD.still (wants_plain rfl) rfl (still_as rfl opd_const) ?_
   refine OD.still (wants_plain rfl) rfl (still_as rfl opd_const) ?_
   refine OD.wk (Wk.as_ (n := 50) (l' := [(4, _), (5, _), (6, _)]) (S' := []) rfl rfl ⟨lk, lk, lk, trivial⟩) ?_
   refine OD.nil ?_
   refine CD.wk (Wk.giveNil (t := 4) (sz := 1) lk) ?_
   refine CD.wk (Wk.giveNil (t := 5) (sz := 1) lk) ?_
   refine CD.ret ?_
   refine ⟨.inr rfl, _, [], List.nil_sublist _, ret_three Tryd.results16 (res_tmp (Nat.le_of_ble_eq_true rfl) lk) (res_tmp (Nat.le_of_ble_eq_true rfl) lk) (res_tmp (Nat.le_of_ble_eq_true rfl) lk), ?_⟩
   rw [hres]; exact ⟨rfl, rfl⟩
  ·have hc1' := hc1
   (try simp only [V.cnd, ne_eq] at hc1')
   have h1 : ¬ ops.length = 0 := by simpa using hc1
   refine CD.skip ?_
   refine CD.seq ?_
   refine CD.region ?_
   refine OD.still (wants_plain rfl) rfl (still_mv rfl ot) ?_
   refine OD.still (wants_plain rfl) rfl (still_mv rfl ot) ?_
   refine OD.callP (wants_plain rfl) rfl rfl rfl Tryd.call9 (hkv) ⟨ot, ot, trivial⟩ ?_
   refine OD.still (wants_plain rfl) rfl (still_mv rfl ot) ?_
   refine OD.still (wants_plain rfl) rfl (still_extract rfl ot rfl) ?_
   refine OD.still (wants_plain rfl) rfl (still_extract rfl ot rfl) ?_
   refine OD.still (wants_plain rfl) rfl (still_as rfl ot) ?_
   refine OD.still (wants_plain rfl) rfl (still_as rfl ot) ?_
   refine OD.wk (Wk.as_ (n := 50) (l' := [(0, _), (1, _), (6, _), (8, _)]) (S' := []) rfl rfl ⟨lk, lk, lk, lk, trivial⟩) ?_
   refine OD.nil ?_
   refine CD.seq ?_
   refine CD.seq ?_
   refine CD.region ?_
   refine OD.still (wants_plain rfl) rfl (still_mv rfl ot) ?_
   refine OD.still (wants_plain rfl) rfl (still_bin rfl ot opd_const bin_neq) ?_
   refine OD.wk (Wk.as_ (n := 50) (l' := [(0, _), (1, _), (6, _), (8, _), (25, _)]) (S' := []) rfl rfl ⟨lk, lk, lk, lk, lk, trivial⟩) ?_
   refine OD.nil ?_
   refine CD.cond ot (fun hc2 => ?_) (fun hc2 => ?_)
   ·have hc2' := hc2
    (try simp only [V.cnd, ne_eq] at hc2')
    have h2 : (kindR l ops).2 ≠ 0 := by simpa using hc2
    have hres : boundsR l ops = (([], []), (kindR l ops).2) := by unfold boundsR; rw [if_neg h0, if_neg h1, if_pos h2]
    refine CD.seq ?_
    refine CD.region ?_
    refine OD.still (wants_plain rfl) rfl (still_mv rfl ot) ?_
    refine OD.still (wants_plain rfl) rfl (still_as rfl opd_const) ?_
    refine OD.still (wants_plain rfl) rfl (still_as rfl opd_const) ?_
    refine OD.still (wants_plain rfl) rfl (still_as rfl ot) ?_
    refine OD.wk (Wk.as_ (n := 50) (l' := [(4, _), (5, _), (6, _)]) (S' := []) rfl rfl ⟨lk, lk, lk, trivial⟩) ?_
    refine OD.nil ?_
    refine CD.wk (Wk.giveNil (t := 4) (sz := 1) lk) ?_
    refine CD.wk (Wk.giveNil (t := 5) (sz := 1) lk) ?_
    refine CD.ret ?_
    refine ⟨.inr rfl, _, [], List.nil_sublist _, ret_three Tryd.results16 (res_tmp (Nat.le_of_ble_eq_true rfl) lk) (res_tmp (Nat.le_of_ble_eq_true rfl) lk) (res_tmp (Nat.le_of_ble_eq_true rfl) lk), ?_⟩
    rw [hres]; exact ⟨rfl, rfl⟩
   ·have hc2' := hc2
    (try simp only [V.cnd, ne_eq] at hc2')
    have h2 : ¬ (kindR l ops).2 ≠ 0 := by simpa using hc2
    obtain ⟨k1, k2, k3⟩ := kind_ok (Classical.not_not.1 h2)
    have hrn := expr_runs1 k2
    obtain ⟨h40, _⟩ := expr_ok k2
    refine CD.skip ?_
    refine CD.seq ?_
    refine CD.seq ?_
    refine CD.region ?_
    refine OD.still (wants_plain rfl) rfl (still_mv rfl ot) ?_
    refine OD.still (wants_plain rfl) rfl (still_bin rfl ot opd_const bin_neq) ?_
    refine OD.still (wants_plain rfl) rfl (still_mv rfl ot) ?_
    refine OD.split (t := 29) lk (fun hg29 => ?_) (fun hg29 => ?_)
    ·have hg29' := hg29; (try simp only [V.cnd, ne_eq] at hg29')
     refine OD.still (wants_T rfl rfl rfl lk (by first | rfl | assumption)) rfl (still_mv rfl ot) ?_
     refine OD.still (wants_T rfl rfl rfl lk (by first | rfl | assumption)) rfl (still_bin rfl ot opd_const bin_neq) ?_
     refine OD.still (wants_plain rfl) rfl (still_pickT rfl ot (by first | rfl | assumption) ot) ?_
     refine OD.wk (Wk.as_ (n := 50) (l' := [(0, _), (1, _), (32, _)]) (S' := []) rfl rfl ⟨lk, lk, lk, trivial⟩) ?_
     refine OD.nil ?_
     refine CD.cond ot (fun hc3 => ?_) (fun hc3 => ?_)
     ·have hc3' := hc3
      (try simp only [V.cnd, ne_eq] at hc3')
      have h3 : (kindR l ops).1 ≠ 1 ∧ (kindR l ops).1 ≠ 0 := by simp_all
      have hres : boundsR l ops = (([], []), 4) := by unfold boundsR; rw [if_neg h0, if_neg h1, if_neg h2, if_pos h3]
      refine CD.seq ?_
      refine CD.region ?_
      refine OD.still (wants_plain rfl) rfl (still_as rfl opd_const) ?_
      refine OD.still (wants_plain rfl) rfl (still_as rfl opd_const) ?_
      refine OD.still (wants_plain rfl) rfl (still_as rfl opd_const) ?_
      refine OD.wk (Wk.as_ (n := 50) (l' := [(4, _), (5, _), (6, _)]) (S' := []) rfl rfl ⟨lk, lk, lk, trivial⟩) ?_
      refine OD.nil ?_
      refine CD.wk (Wk.giveNil (t := 4) (sz := 1) lk) ?_
      refine CD.wk (Wk.giveNil (t := 5) (sz := 1) lk) ?_
      refine CD.ret ?_
      refine ⟨.inr rfl, _, [], List.nil_sublist _, ret_three Tryd.results16 (res_tmp (Nat.le_of_ble_eq_true rfl) lk) (res_tmp (Nat.le_of_ble_eq_true rfl) lk) (res_tmp (Nat.le_of_ble_eq_true rfl) lk), ?_⟩
      rw [hres]; exact ⟨rfl, rfl⟩
     ·have hc3' := hc3
      (try simp only [V.cnd, ne_eq] at hc3')
      have h3 : ¬ ((kindR l ops).1 ≠ 1 ∧ (kindR l ops).1 ≠ 0) := by simp_all
      have hres : boundsR l ops = (narF l[0].n ops.length ops ([], []), 0) := by unfold boundsR; rw [if_neg h0, if_neg h1, if_neg h2, if_neg h3, List.getD_eq_getElem?_getD, List.getElem?_eq_getElem h0p]; rfl
      refine CD.skip ?_
      refine CD.seq ?_
      refine CD.region ?_
      refine OD.still (wants_plain rfl) rfl (still_bld (pl := []) (ds := [_, _]) rfl Tryd.zeroValue74 Tryd.runUnderlying74 places74_Ex8 trivial rfl rfl) ?_
      refine OD.box (ds := [_, _]) (wants_plain rfl) rfl rfl ot rfl rfl (fun b34 => ?_)
      refine OD.wk (Wk.nil2 (k := 0) (sz := 1) (sz' := 1) rfl) ?_
      refine OD.still (wants_plain rfl) rfl (still_as rfl ot) ?_
      refine OD.wk (Wk.as_ (n := 50) (l' := [(0, _), (1, _), (9, _)]) (S' := [⟨b34, 74, 2, [_, _]⟩]) rfl rfl ⟨lk, lk, lk, trivial⟩) ?_
      refine OD.nil ?_
      refine CD.seq ?_
      refine CD.region ?_
      refine OD.still (wants_plain rfl) rfl (still_mv rfl ot) ?_
      refine OD.still (wants_plain rfl) rfl (still_mv rfl ot) ?_
      refine OD.still (wants_plain rfl) rfl (still_r2 (mk := Op.indexAddr 30) rfl ot opd_const (by first | exact ix_list Tryd.runUnderlying30 Tryd.sizeOf58 (j := 0) rfl h0p | exact ix_row Tryd.runUnderlying30 Tryd.sizeOf58 (j := 0) rfl h0p)) ?_
      refine OD.still (wants_plain rfl) rfl (still_r1 (mk := fun y => Op.fieldAddr 58 y 0) rfl ot (by first | exact fa_ptr (off := 0) Tryd.runUnderlying58 rfl Tryd.sizeOf9 rfl | exact fa_iptr (off := 0) Tryd.runUnderlying58 rfl Tryd.sizeOf9 rfl)) ?_
      refine OD.still (wants_plain rfl) rfl (still_r1 (mk := Op.load 9) rfl ot (by first | exact ld_blk (k := 0) rfl rfl Tryd.isAgg9 rfl | exact ld_fm cC_len Tryd.isAgg9 (by first | assumption | omega) rfl | exact ld_fm0 cC_len Tryd.isAgg9 (by first | assumption | omega) rfl | exact ld_row (k := 0) cC_len rfl rfl rfl Tryd.isAgg9 (by first | assumption | omega) rfl | exact ld_row0 (k := 0) cC_len rfl rfl rfl Tryd.isAgg9 (by first | assumption | omega) rfl | exact ld_i Tryd.isAgg9 rfl)) ?_
      refine OD.still (wants_plain rfl) rfl (still_mv rfl ot) ?_
      refine OD.call (wants_plain rfl) rfl rfl rfl Tryd.call36 (nar_vc hG l[0].n ops.length h40 ops [] [] (Nat.le_refl _) hrn hok (Nat.zero_le _) (Nat.zero_le _) b34) ⟨ot, ot, ot, trivial⟩ (perm_one (k := 0) rfl) ?_
      rintro _ _ ⟨rfl, rfl⟩
      refine OD.wk (Wk.as_ (n := 50) (l' := [(9, _)]) (S' := [⟨b34, 74, 2, [_, _]⟩]) rfl rfl ⟨lk, trivial⟩) ?_
      refine OD.nil ?_
      refine CD.seq ?_
      refine CD.draw (bks _) (by kernel_rfl) (fun _ h => h) ?_
      refine AD0.take (i := 0) rfl (by kernel_rfl) (by kernel_rfl) (by kernel_rfl) (by repeat (first | exact NP.body | apply NP.then | apply NP.cut | apply NP.inBlock | apply NP.round)) (wants_plain rfl) rfl (still_mv rfl ot) (by exact trivial) ?_
      refine AD0.take (i := 1) rfl (by kernel_rfl) (by kernel_rfl) (by kernel_rfl) (by repeat (first | exact NP.body | apply NP.then | apply NP.cut | apply NP.inBlock | apply NP.round)) (wants_plain rfl) rfl (still_r1 (mk := Op.nilCheck) rfl ot (by first | exact nc_ptr | exact nc_iptr)) (by exact trivial) ?_
      refine AD0.take (i := 2) rfl (by kernel_rfl) (by kernel_rfl) (by kernel_rfl) (by repeat (first | exact NP.body | apply NP.then | apply NP.cut | apply NP.inBlock | apply NP.round)) (wants_plain rfl) rfl (still_r1 (mk := fun y => Op.fieldAddr 74 y 0) rfl ot (by first | exact fa_ptr (off := 0) Tryd.runUnderlying74 rfl Tryd.sizeOf47 rfl | exact fa_iptr (off := 0) Tryd.runUnderlying74 rfl Tryd.sizeOf47 rfl)) (by exact trivial) ?_
      refine AD0.take (i := 3) rfl (by kernel_rfl) (by kernel_rfl) (by kernel_rfl) (by repeat (first | exact NP.body | apply NP.then | apply NP.cut | apply NP.inBlock | apply NP.round)) (wants_plain rfl) rfl (still_r1 (mk := Op.load 47) rfl ot (by first | exact ld_blk (k := 0) rfl rfl Tryd.isAgg47 rfl | exact ld_fm cC_len Tryd.isAgg47 (by first | assumption | omega) rfl | exact ld_fm0 cC_len Tryd.isAgg47 (by first | assumption | omega) rfl | exact ld_row (k := 0) cC_len rfl rfl rfl Tryd.isAgg47 (by first | assumption | omega) rfl | exact ld_row0 (k := 0) cC_len rfl rfl rfl Tryd.isAgg47 (by first | assumption | omega) rfl | exact ld_i Tryd.isAgg47 rfl)) (by first | exact trivial | exact safe_blk (k0 := 0) rfl rfl) ?_
      refine AD0.take (i := 4) rfl (by kernel_rfl) (by kernel_rfl) (by kernel_rfl) (by repeat (first | exact NP.body | apply NP.then | apply NP.cut | apply NP.inBlock | apply NP.round)) (wants_plain rfl) rfl (still_mv rfl ot) (by exact trivial) ?_
      refine AD0.take (i := 5) rfl (by kernel_rfl) (by kernel_rfl) (by kernel_rfl) (by repeat (first | exact NP.body | apply NP.then | apply NP.cut | apply NP.inBlock | apply NP.round)) (wants_plain rfl) rfl (still_r1 (mk := Op.nilCheck) rfl ot (by first | exact nc_ptr | exact nc_iptr)) (by exact trivial) ?_
      refine AD0.take (i := 6) rfl (by kernel_rfl) (by kernel_rfl) (by kernel_rfl) (by repeat (first | exact NP.body | apply NP.then | apply NP.cut | apply NP.inBlock | apply NP.round)) (wants_plain rfl) rfl (still_r1 (mk := fun y => Op.fieldAddr 74 y 1) rfl ot (by first | exact fa_ptr (off := 1) Tryd.runUnderlying74 rfl Tryd.sizeOf47 rfl | exact fa_iptr (off := 1) Tryd.runUnderlying74 rfl Tryd.sizeOf47 rfl)) (by exact trivial) ?_
      refine AD0.take (i := 7) rfl (by kernel_rfl) (by kernel_rfl) (by kernel_rfl) (by repeat (first | exact NP.body | apply NP.then | apply NP.cut | apply NP.inBlock | apply NP.round)) (wants_plain rfl) rfl (still_r1 (mk := Op.load 47) rfl ot (by first | exact ld_blk (k := 0) rfl rfl Tryd.isAgg47 rfl | exact ld_fm cC_len Tryd.isAgg47 (by first | assumption | omega) rfl | exact ld_fm0 cC_len Tryd.isAgg47 (by first | assumption | omega) rfl | exact ld_row (k := 0) cC_len rfl rfl rfl Tryd.isAgg47 (by first | assumption | omega) rfl | exact ld_row0 (k := 0) cC_len rfl rfl rfl Tryd.isAgg47 (by first | assumption | omega) rfl | exact ld_i Tryd.isAgg47 rfl)) (by first | exact trivial | exact safe_blk (k0 := 0) rfl rfl) ?_
      refine AD0.take (i := 8) rfl (by kernel_rfl) (by kernel_rfl) (by kernel_rfl) (by repeat (first | exact NP.body | apply NP.then | apply NP.cut | apply NP.inBlock | apply NP.round)) (wants_plain rfl) rfl (still_as rfl ot) (by exact trivial) ?_
      refine AD0.take (i := 9) rfl (by kernel_rfl) (by kernel_rfl) (by kernel_rfl) (by repeat (first | exact NP.body | apply NP.then | apply NP.cut | apply NP.inBlock | apply NP.round)) (wants_plain rfl) rfl (still_as rfl ot) (by exact trivial) ?_
      refine AD0.take (i := 10) rfl (by kernel_rfl) (by kernel_rfl) (by kernel_rfl) (by repeat (first | exact NP.body | apply NP.then | apply NP.cut | apply NP.inBlock | apply NP.round)) (wants_plain rfl) rfl (still_as rfl opd_const) (by exact trivial) ?_
      refine AD0.later rfl ?_
      refine AD.wk (y := ⟨50, [(4, _), (5, _), (6, _)], [⟨b34, 74, 2, [_, _]⟩]⟩) (Wk.as_ rfl rfl ⟨lk, lk, lk, trivial⟩) rfl ?_
      refine AD.done (by kernel_rfl) ?_
      refine CD.ret ?_
      refine ⟨.inr rfl, _, [], List.nil_sublist _, ret_three Tryd.results16 (res_tmp (Nat.le_of_ble_eq_true rfl) lk) (res_tmp (Nat.le_of_ble_eq_true rfl) lk) (res_tmp (Nat.le_of_ble_eq_true rfl) lk), ?_⟩
      rw [hres]; exact ⟨rfl, rfl⟩
    ·have hg29' := hg29; (try simp only [V.cnd, ne_eq] at hg29')
     refine OD.skip (wants_F rfl rfl rfl lk (by first | rfl | assumption)) rfl ?_
     refine OD.skip (wants_F rfl rfl rfl lk (by first | rfl | assumption)) rfl ?_
     refine OD.still (wants_plain rfl) rfl (still_pickF rfl ot (by first | rfl | assumption) opd_const) ?_
     refine OD.wk (Wk.as_ (n := 50) (l' := [(0, _), (1, _), (32, _)]) (S' := []) rfl rfl ⟨lk, lk, lk, trivial⟩) ?_
     refine OD.nil ?_
     refine CD.condF ot (by first | rfl | assumption) ?_
     have h3 : ¬ ((kindR l ops).1 ≠ 1 ∧ (kindR l ops).1 ≠ 0) := by simp_all
     have hres : boundsR l ops = (narF l[0].n ops.length ops ([], []), 0) := by unfold boundsR; rw [if_neg h0, if_neg h1, if_neg h2, if_neg h3, List.getD_eq_getElem?_getD, List.getElem?_eq_getElem h0p]; rfl
     refine CD.skip ?_
     refine CD.seq ?_
     refine CD.region ?_
     refine OD.still (wants_plain rfl) rfl (still_bld (pl := []) (ds := [_, _]) rfl Tryd.zeroValue74 Tryd.runUnderlying74 places74_Ex8 trivial rfl rfl) ?_
     refine OD.box (ds := [_, _]) (wants_plain rfl) rfl rfl ot rfl rfl (fun b34 => ?_)
     refine OD.wk (Wk.nil2 (k := 0) (sz := 1) (sz' := 1) rfl) ?_
     refine OD.still (wants_plain rfl) rfl (still_as rfl ot) ?_
     refine OD.wk (Wk.as_ (n := 50) (l' := [(0, _), (1, _), (9, _)]) (S' := [⟨b34, 74, 2, [_, _]⟩]) rfl rfl ⟨lk, lk, lk, trivial⟩) ?_
     refine OD.nil ?_
     refine CD.seq ?_
     refine CD.region ?_
     refine OD.still (wants_plain rfl) rfl (still_mv rfl ot) ?_
     refine OD.still (wants_plain rfl) rfl (still_mv rfl ot) ?_
     refine OD.still (wants_plain rfl) rfl (still_r2 (mk := Op.indexAddr 30) rfl ot opd_const (by first | exact ix_list Tryd.runUnderlying30 Tryd.sizeOf58 (j := 0) rfl h0p | exact ix_row Tryd.runUnderlying30 Tryd.sizeOf58 (j := 0) rfl h0p)) ?_
     refine OD.still (wants_plain rfl) rfl (still_r1 (mk := fun y => Op.fieldAddr 58 y 0) rfl ot (by first | exact fa_ptr (off := 0) Tryd.runUnderlying58 rfl Tryd.sizeOf9 rfl | exact fa_iptr (off := 0) Tryd.runUnderlying58 rfl Tryd.sizeOf9 rfl)) ?_
     refine OD.still (wants_plain rfl) rfl (still_r1 (mk := Op.load 9) rfl ot (by first | exact ld_blk (k := 0) rfl rfl Tryd.isAgg9 rfl | exact ld_fm cC_len Tryd.isAgg9 (by first | assumption | omega) rfl | exact ld_fm0 cC_len Tryd.isAgg9 (by first | assumption | omega) rfl | exact ld_row (k := 0) cC_len rfl rfl rfl Tryd.isAgg9 (by first | assumption | omega) rfl | exact ld_row0 (k := 0) cC_len rfl rfl rfl Tryd.isAgg9 (by first | assumption | omega) rfl | exact ld_i Tryd.isAgg9 rfl)) ?_
     refine OD.still (wants_plain rfl) rfl (still_mv rfl ot) ?_
     refine OD.call (wants_plain rfl) rfl rfl rfl Tryd.call36 (nar_vc hG l[0].n ops.length h40 ops [] [] (Nat.le_refl _) hrn hok (Nat.zero_le _) (Nat.zero_le _) b34) ⟨ot, ot, ot, trivial⟩ (perm_one (k := 0) rfl) ?_
     rintro _ _ ⟨rfl, rfl⟩
     refine OD.wk (Wk.as_ (n := 50) (l' := [(9, _)]) (S' := [⟨b34, 74, 2, [_, _]⟩]) rfl rfl ⟨lk, trivial⟩) ?_
     refine OD.nil ?_
     refine CD.seq ?_
     refine CD.draw (bks _) (by kernel_rfl) (fun _ h => h) ?_
     refine AD0.take (i := 0) rfl (by kernel_rfl) (by kernel_rfl) (by kernel_rfl) (by repeat (first | exact NP.body | apply NP.then | apply NP.cut | apply NP.inBlock | apply NP.round)) (wants_plain rfl) rfl (still_mv rfl ot) (by exact trivial) ?_
     refine AD0.take (i := 1) rfl (by kernel_rfl) (by kernel_rfl) (by kernel_rfl) (by repeat (first | exact NP.body | apply NP.then | apply NP.cut | apply NP.inBlock | apply NP.round)) (wants_plain rfl) rfl (still_r1 (mk := Op.nilCheck) rfl ot (by first | exact nc_ptr | exact nc_iptr)) (by exact trivial) ?_
     refine AD0.take (i := 2) rfl (by kernel_rfl) (by kernel_rfl) (by kernel_rfl) (by repeat (first | exact NP.body | apply NP.then | apply NP.cut | apply NP.inBlock | apply NP.round)) (wants_plain rfl) rfl (still_r1 (mk := fun y => Op.fieldAddr 74 y 0) rfl ot (by first | exact fa_ptr (off := 0) Tryd.runUnderlying74 rfl Tryd.sizeOf47 rfl | exact fa_iptr (off := 0) Tryd.runUnderlying74 rfl Tryd.sizeOf47 rfl)) (by exact trivial) ?_
     refine AD0.take (i := 3) rfl (by kernel_rfl) (by kernel_rfl) (by kernel_rfl) (by repeat (first | exact NP.body | apply NP.then | apply NP.cut | apply NP.inBlock | apply NP.round)) (wants_plain rfl) rfl (still_r1 (mk := Op.load 47) rfl ot (by first | exact ld_blk (k := 0) rfl rfl Tryd.isAgg47 rfl | exact ld_fm cC_len Tryd.isAgg47 (by first | assumption | omega) rfl | exact ld_fm0 cC_len Tryd.isAgg47 (by first | assumption | omega) rfl | exact ld_row (k := 0) cC_len rfl rfl rfl Tryd.isAgg47 (by first | assumption | omega) rfl | exact ld_row0 (k := 0) cC_len rfl rfl rfl Tryd.isAgg47 (by first | assumption | omega) rfl | exact ld_i Tryd.isAgg47 rfl)) (by first | exact trivial | exact safe_blk (k0 := 0) rfl rfl) ?_
     refine AD0.take (i := 4) rfl (by kernel_rfl) (by kernel_rfl) (by kernel_rfl) (by repeat (first | exact NP.body | apply NP.then | apply NP.cut | apply NP.inBlock | apply NP.round)) (wants_plain rfl) rfl (still_mv rfl ot) (by exact trivial) ?_
     refine AD0.take (i := 5) rfl (by kernel_rfl) (by kernel_rfl) (by kernel_rfl) (by repeat (first | exact NP.body | apply NP.then | apply NP.cut | apply NP.inBlock | apply NP.round)) (wants_plain rfl) rfl (still_r1 (mk := Op.nilCheck) rfl ot (by first | exact nc_ptr | exact nc_iptr)) (by exact trivial) ?_
     refine AD0.take (i := 6) rfl (by kernel_rfl) (by kernel_rfl) (by kernel_rfl) (by repeat (first | exact NP.body | apply NP.then | apply NP.cut | apply NP.inBlock | apply NP.round)) (wants_plain rfl) rfl (still_r1 (mk := fun y => Op.fieldAddr 74 y 1) rfl ot (by first | exact fa_ptr (off := 1) Tryd.runUnderlying74 rfl Tryd.sizeOf47 rfl | exact fa_iptr (off := 1) Tryd.runUnderlying74 rfl Tryd.sizeOf47 rfl)) (by exact trivial) ?_
     refine AD0.take (i := 7) rfl (by kernel_rfl) (by kernel_rfl) (by kernel_rfl) (by repeat (first | exact NP.body | apply NP.then | apply NP.cut | apply NP.inBlock | apply NP.round)) (wants_plain rfl) rfl (still_r1 (mk := Op.load 47) rfl ot (by first | exact ld_blk (k := 0) rfl rfl Tryd.isAgg47 rfl | exact ld_fm cC_len Tryd.isAgg47 (by first | assumption | omega) rfl | exact ld_fm0 cC_len Tryd.isAgg47 (by first | assumption | omega) rfl | exact ld_row (k := 0) cC_len rfl rfl rfl Tryd.isAgg47 (by first | assumption | omega) rfl | exact ld_row0 (k := 0) cC_len rfl rfl rfl Tryd.isAgg47 (by first | assumption | omega) rfl | exact ld_i Tryd.isAgg47 rfl)) (by first | exact trivial | exact safe_blk (k0 := 0) rfl rfl) ?_
     refine AD0.take (i := 8) rfl (by kernel_rfl) (by kernel_rfl) (by kernel_rfl) (by repeat (first | exact NP.body | apply NP.then | apply NP.cut | apply NP.inBlock | apply NP.round)) (wants_plain rfl) rfl (still_as rfl ot) (by exact trivial) ?_
     refine AD0.take (i := 9) rfl (by kernel_rfl) (by kernel_rfl) (by kernel_rfl) (by repeat (first | exact NP.body | apply NP.then | apply NP.cut | apply NP.inBlock | apply NP.round)) (wants_plain rfl) rfl (still_as rfl ot) (by exact trivial) ?_
     refine AD0.take (i := 10) rfl (by kernel_rfl) (by kernel_rfl) (by kernel_rfl) (by repeat (first | exact NP.body | apply NP.then | apply NP.cut | apply NP.inBlock | apply NP.round)) (wants_plain rfl) rfl (still_as rfl opd_const) (by exact trivial) ?_
     refine AD0.later rfl ?_
     refine AD.wk (y := ⟨50, [(4, _), (5, _), (6, _)], [⟨b34, 74, 2, [_, _]⟩]⟩) (Wk.as_ rfl rfl ⟨lk, lk, lk, trivial⟩) rfl ?_
     refine AD.done (by kernel_rfl) ?_
     refine CD.ret ?_
     refine ⟨.inr rfl, _, [], List.nil_sublist _, ret_three Tryd.results16 (res_tmp (Nat.le_of_ble_eq_true rfl) lk) (res_tmp (Nat.le_of_ble_eq_true rfl) lk) (res_tmp (Nat.le_of_ble_eq_true rfl) lk), ?_⟩
     rw [hres]; exact ⟨rfl, rfl⟩

end Go.Proofs.YtfooincnmobemaaDoor.Ex

namespace Go.Proofs.YtfooincnmobemaaDoor.Ex
open Go.RowKit V Pk Vl Go.Proofs.YtfooincnmobemaaDoor.Nm Go.Proofs.YtfooincnmobemaaDoor.Pc Go.Proofs.YtfooincnmobemaaDoor.Cd
set_option linter.unusedVariables false
set_option linter.unusedSimpArgs false

open Go.Lib (compareBytes)
def idB : ByteArray := ⟨#[105, 100]⟩
def idO : OpL := ⟨2, noVl, idB⟩
def litO (x : Int) : OpL := ⟨1, numV x, ⟨#[]⟩⟩
def nulO : OpL := ⟨1, noVl, ⟨#[]⟩⟩
def keyX (x : Int) : List UInt8 := encL [numV x]
theorem lit_numV {x : Int} (hx : 0 ≤ x) : litF (numV x) = 0 := by unfold litF; rw [if_neg (by intro h; have : x = -9223372036854775808 := h.2; omega)]; exact ck_num x
theorem err_id {h : Int} (h0 : 0 ≤ h) : opErr h idO = 0 := by unfold opErr idO; simp [lit_noVl, zero_noVl, idB, nm_id, popsF]; omega
theorem err_nc {h : Int} (h0 : 0 ≤ h) : opErr h colN = 0 := by unfold opErr colN; simp [lit_noVl, zero_noVl, nm_n, popsF]; omega
theorem err_lit {h x : Int} (hx : 0 ≤ x) (h0 : 0 ≤ h) : opErr h (litO x) = 0 := by unfold opErr litO; simp [lit_numV hx, popsF]; omega
theorem err_nul {h : Int} (h0 : 0 ≤ h) : opErr h nulO = 0 := by unfold opErr nulO; simp [lit_noVl, popsF]; omega
theorem runs_step {h : Int} {o : OpL} {r : List OpL} (he : opErr h o = 0) {h' : Int} (hh : h + (1 - popsF o.k) = h') : runs h (o :: r) = runs h' r := by rw [runs, if_pos he, hh]
theorem key_id : keyCol idB idO = true := by decide +kernel
theorem key_n : keyCol idB colN = false := by decide +kernel
theorem key_lit (x : Int) : keyCol idB (litO x) = false := rfl
theorem lit_id : litNN idO = false := rfl
theorem lit_nc : litNN colN = false := rfl
theorem lit_lit (x : Int) : litNN (litO x) = true := rfl
theorem lit_nul : litNN nulO = false := rfl
theorem idx_0 {α : Type} {p : α → Bool} {a : α} {r : List α} (h : p a = true) : idxG p (a :: r) = 0 := by unfold idxG; simp [List.findIdx?_cons, h]
theorem idx_1 {α : Type} {p : α → Bool} {a b : α} {r : List α} (h : p a = false) (h' : p b = true) : idxG p (a :: b :: r) = 1 := by unfold idxG; simp [List.findIdx?_cons, h, h']
theorem idx_no2 {α : Type} {p : α → Bool} {a b : α} (h : p a = false) (h' : p b = false) : idxG p [a, b] = -1 := by unfold idxG; simp [List.findIdx?_cons, h, h']
theorem enc_num (x : Int) : encR [numV x] = (keyX x, 0) := by
 unfold encR
 rw [if_neg (by simp), errV_ok (fun v hv => by rw [List.mem_singleton] at hv; rw [hv]; exact ck_num x), if_neg (by simp)]
 rw [if_neg (by unfold encL encV payV; simp [numV, be8])]
 rfl
theorem key_len (x : Int) : (keyX x).length = 9 := by unfold keyX encL encV payV; simp [numV, be8]
theorem bounds_eval {ops : List OpL} {k : Int} (hr : runs 0 ops = some 1) (hl : ops.length ≤ 40) (hp : ops.length ≠ 0) (hk : kindF colsL ops = (k, 0)) (h01 : k = 1 ∨ k = 0) : boundsR colsL ops = (narF idB ops.length ops ([], []), 0) := by
 have hx : exprF ops = 0 := by
  unfold exprF
  rw [if_neg (by omega)]
  have := exprL_runs [] hr
  rw [List.append_nil] at this
  rw [this]; rfl
 have hkr : kindR colsL ops = (k, 0) := by unfold kindR; rw [if_neg (by simp [cols_ok]), if_neg (by simp [hx])]; exact hk
 unfold boundsR
 rw [if_neg (by simp [cols_ok]), if_neg hp, hkr, if_neg (by simp), if_neg (by show ¬ (k ≠ 1 ∧ k ≠ 0); omega)]
 rfl
theorem made_id (a b : Int) : madeF colsL idO a b = (2, 0) := by unfold madeF; rw [if_neg (by decide), if_pos (by rfl)]; unfold kindAt; rw [show idO.nm = ⟨#[105, 100]⟩ from rfl, at_id]; rfl
theorem made_nc (a b : Int) : madeF colsL colN a b = (2, 0) := by unfold madeF; rw [if_neg (by decide), if_pos (by rfl)]; unfold kindAt; rw [show colN.nm = ⟨#[110]⟩ from rfl, at_n]; rfl
theorem made_lit (x a b : Int) : madeF colsL (litO x) a b = (2, 0) := by unfold madeF; rw [if_pos (by rfl)]; rfl
theorem made_nul (a b : Int) : madeF colsL nulO a b = (0, 0) := by unfold madeF; rw [if_pos (by rfl)]; rfl
theorem made_bare {k a b : Int} (h1 : k ≠ 1) (h2 : k ≠ 2) (h : okF k a b = true) : madeF colsL (bareOp k) a b = (outF k, 0) := by unfold madeF; rw [if_neg (by exact h1), if_neg (by exact h2), if_pos (by exact h)]; rfl
theorem fold_step {o : OpL} {r : List OpL} {st : List Int} {v : Int} (h : madeF colsL o (argA 0 o.k st) (argB 0 o.k st) = (v, 0)) {st' : List Int} (hs : st.take (st.length - (popsF o.k).toNat) ++ [v] = st') : foldG 0 (madeF colsL) (o :: r) st = foldG 0 (madeF colsL) r st' := by
 rw [cons_ok (by rw [h]), h, hs]

theorem cmp_nil (x : Int) : compareBytes (keyX x) [] = 1 := by
 have := key_len x
 cases h : keyX x with
 | nil => rw [h] at this; cases this
 | cons a r => rfl
theorem cut_empty (x kc : Int) (eq not : Bool) : cutB kc eq not (keyX x) ([], []) = (bif eq || (kc == 0) == not then keyX x else [], bif eq || (kc == 0) != not then keyX x else []) := by
 unfold cutB lowF highF
 cases (eq || (kc == 0) == not) <;> cases (eq || (kc == 0) != not) <;> simp [cmp_nil]
theorem leaf_at (x : Int) {ops : List OpL} {not : Bool} {kc lc : Int} {b : BdL} (h3 : ops.length = 3) (hn : not = true → opK ops 2 = 7) (h67 : opK ops 2 = 6 ∨ opK ops 2 = 7) (hkc : idxG (keyCol idB) (ops.take 2) = kc) (hlc : idxG litNN (ops.take 2) = lc) (hk0 : 0 ≤ kc) (hl0 : 0 ≤ lc) (hx : (ops.getD lc.toNat (bareOp 0)).v = numV x) : leafB idB ops not b = cutB kc (opK ops 2 == 6) not (keyX x) b := by
 unfold leafB litK
 rw [hkc, hlc, hx, enc_num, h3, if_neg, if_neg (by omega)]
 simp only [Nat.reduceSub]
 rcases h67 with h | h
 ·have : ¬ not = true := fun e => by have := hn e; omega
  simp [h, this]
 ·simp [h]
theorem leaf_not3 {ops : List OpL} {not : Bool} {b : BdL} (h : ops.length ≠ 3 ∨ (not = true ∧ opK ops (ops.length - 1) ≠ 7) ∨ (opK ops (ops.length - 1) ≠ 6 ∧ opK ops (ops.length - 1) ≠ 7)) : leafB idB ops not b = b := by unfold leafB; rw [if_pos h]
theorem leaf_none {ops : List OpL} {not : Bool} {b : BdL} (h : idxG (keyCol idB) (ops.take 2) < 0 ∨ idxG litNN (ops.take 2) < 0) : leafB idB ops not b = b := by unfold leafB; rw [if_pos h, ite_self]

theorem one0 {x : Int} (hx : 0 ≤ x) : boundsR colsL [idO, litO x, bareOp 6] = (((keyX x), (keyX x)), 0) := by
 rw [bounds_eval (ops := [idO, litO x, bareOp 6]) (k := 1) (by rw [runs_step (h' := 1) (err_id (by decide)) (by rfl)]; rw [runs_step (h' := 2) (err_lit (by omega) (by decide)) (by rfl)]; rw [runs_step (h' := 1) (err_bare (by decide) (by decide) (by decide)) (by rfl)]; rfl) (by simp) (by simp) (by unfold kindF; rw [fold_step (v := 2) (st' := [2]) (made_id _ _) (by rfl)]; rw [fold_step (v := 2) (st' := [2, 2]) (made_lit _ _ _) (by rfl)]; rw [fold_step (v := 1) (st' := [1]) (made_bare (by decide) (by decide) (by rfl)) (by rfl)]; rfl) (.inl rfl)]
 have : ∀ b, leafB idB [idO, litO x, bareOp 6] false b = cutB 0 (opK [idO, litO x, bareOp 6] 2 == 6) false (keyX x) b := fun b => leaf_at x (ops := [idO, litO x, bareOp 6]) (not := false) (kc := 0) (lc := 1) rfl (fun h => absurd h (by decide)) (.inl rfl) (idx_0 key_id) (idx_1 lit_id (lit_lit x)) (by decide) (by decide) rfl
 rw [show narF idB [idO, litO x, bareOp 6].length [idO, litO x, bareOp 6] ([], []) = leafB idB [idO, litO x, bareOp 6] false ([], []) from rfl]
 rw [this, cut_empty]; rfl

theorem none0 {x : Int} (hx : 0 ≤ x) : boundsR colsL [colN, litO x, bareOp 6] = (([], []), 0) := by
 rw [bounds_eval (ops := [colN, litO x, bareOp 6]) (k := 1) (by rw [runs_step (h' := 1) (err_nc (by decide)) (by rfl)]; rw [runs_step (h' := 2) (err_lit (by omega) (by decide)) (by rfl)]; rw [runs_step (h' := 1) (err_bare (by decide) (by decide) (by decide)) (by rfl)]; rfl) (by simp) (by simp) (by unfold kindF; rw [fold_step (v := 2) (st' := [2]) (made_nc _ _) (by rfl)]; rw [fold_step (v := 2) (st' := [2, 2]) (made_lit _ _ _) (by rfl)]; rw [fold_step (v := 1) (st' := [1]) (made_bare (by decide) (by decide) (by rfl)) (by rfl)]; rfl) (.inl rfl)]
 rw [show narF idB [colN, litO x, bareOp 6].length [colN, litO x, bareOp 6] ([], []) = leafB idB [colN, litO x, bareOp 6] false ([], []) from rfl]
 rw [show ∀ b, leafB idB [colN, litO x, bareOp 6] false b = b from fun b => leaf_none (.inl (by rw [show idxG (keyCol idB) (List.take 2 [colN, litO x, bareOp 6]) = -1 from idx_no2 key_n (key_lit x)]; decide))]

theorem none1 {x : Int} (hx : 0 ≤ x) : boundsR colsL [idO, nulO, bareOp 6] = (([], []), 0) := by
 rw [bounds_eval (ops := [idO, nulO, bareOp 6]) (k := 1) (by rw [runs_step (h' := 1) (err_id (by decide)) (by rfl)]; rw [runs_step (h' := 2) (err_nul (by decide)) (by rfl)]; rw [runs_step (h' := 1) (err_bare (by decide) (by decide) (by decide)) (by rfl)]; rfl) (by simp) (by simp) (by unfold kindF; rw [fold_step (v := 2) (st' := [2]) (made_id _ _) (by rfl)]; rw [fold_step (v := 0) (st' := [2, 0]) (made_nul _ _) (by rfl)]; rw [fold_step (v := 1) (st' := [1]) (made_bare (by decide) (by decide) (by rfl)) (by rfl)]; rfl) (.inl rfl)]
 rw [show narF idB [idO, nulO, bareOp 6].length [idO, nulO, bareOp 6] ([], []) = leafB idB [idO, nulO, bareOp 6] false ([], []) from rfl]
 rw [show ∀ b, leafB idB [idO, nulO, bareOp 6] false b = b from fun b => leaf_none (.inr (by rw [show idxG litNN (List.take 2 [idO, nulO, bareOp 6]) = -1 from idx_no2 lit_id lit_nul]; decide))]

theorem none2 {x : Int} (hx : 0 ≤ x) : boundsR colsL [idO, colN, bareOp 7] = (([], []), 0) := by
 rw [bounds_eval (ops := [idO, colN, bareOp 7]) (k := 1) (by rw [runs_step (h' := 1) (err_id (by decide)) (by rfl)]; rw [runs_step (h' := 2) (err_nc (by decide)) (by rfl)]; rw [runs_step (h' := 1) (err_bare (by decide) (by decide) (by decide)) (by rfl)]; rfl) (by simp) (by simp) (by unfold kindF; rw [fold_step (v := 2) (st' := [2]) (made_id _ _) (by rfl)]; rw [fold_step (v := 2) (st' := [2, 2]) (made_nc _ _) (by rfl)]; rw [fold_step (v := 1) (st' := [1]) (made_bare (by decide) (by decide) (by rfl)) (by rfl)]; rfl) (.inl rfl)]
 rw [show narF idB [idO, colN, bareOp 7].length [idO, colN, bareOp 7] ([], []) = leafB idB [idO, colN, bareOp 7] false ([], []) from rfl]
 rw [show ∀ b, leafB idB [idO, colN, bareOp 7] false b = b from fun b => leaf_none (.inr (by rw [show idxG litNN (List.take 2 [idO, colN, bareOp 7]) = -1 from idx_no2 lit_id lit_nc]; decide))]

theorem none3 {x : Int} (hx : 0 ≤ x) : boundsR colsL [litO x, litO x, bareOp 7] = (([], []), 0) := by
 rw [bounds_eval (ops := [litO x, litO x, bareOp 7]) (k := 1) (by rw [runs_step (h' := 1) (err_lit (by omega) (by decide)) (by rfl)]; rw [runs_step (h' := 2) (err_lit (by omega) (by decide)) (by rfl)]; rw [runs_step (h' := 1) (err_bare (by decide) (by decide) (by decide)) (by rfl)]; rfl) (by simp) (by simp) (by unfold kindF; rw [fold_step (v := 2) (st' := [2]) (made_lit _ _ _) (by rfl)]; rw [fold_step (v := 2) (st' := [2, 2]) (made_lit _ _ _) (by rfl)]; rw [fold_step (v := 1) (st' := [1]) (made_bare (by decide) (by decide) (by rfl)) (by rfl)]; rfl) (.inl rfl)]
 rw [show narF idB [litO x, litO x, bareOp 7].length [litO x, litO x, bareOp 7] ([], []) = leafB idB [litO x, litO x, bareOp 7] false ([], []) from rfl]
 rw [show ∀ b, leafB idB [litO x, litO x, bareOp 7] false b = b from fun b => leaf_none (.inl (by rw [show idxG (keyCol idB) (List.take 2 [litO x, litO x, bareOp 7]) = -1 from idx_no2 (key_lit x) (key_lit x)]; decide))]

theorem none4 {x : Int} (hx : 0 ≤ x) : boundsR colsL [idO, bareOp 11] = (([], []), 0) := by
 rw [bounds_eval (ops := [idO, bareOp 11]) (k := 1) (by rw [runs_step (h' := 1) (err_id (by decide)) (by rfl)]; rw [runs_step (h' := 1) (err_bare (by decide) (by decide) (by decide)) (by rfl)]; rfl) (by simp) (by simp) (by unfold kindF; rw [fold_step (v := 2) (st' := [2]) (made_id _ _) (by rfl)]; rw [fold_step (v := 1) (st' := [1]) (made_bare (by decide) (by decide) (by rfl)) (by rfl)]; rfl) (.inl rfl)]
 rw [show narF idB [idO, bareOp 11].length [idO, bareOp 11] ([], []) = leafB idB [idO, bareOp 11] false ([], []) from rfl]
 rw [show ∀ b, leafB idB [idO, bareOp 11] false b = b from fun b => leaf_not3 (.inl (by simp))]

theorem none5 {x : Int} (hx : 0 ≤ x) : boundsR colsL [idO, litO x, bareOp 8, litO x, bareOp 7] = (([], []), 0) := by
 rw [bounds_eval (ops := [idO, litO x, bareOp 8, litO x, bareOp 7]) (k := 1) (by rw [runs_step (h' := 1) (err_id (by decide)) (by rfl)]; rw [runs_step (h' := 2) (err_lit (by omega) (by decide)) (by rfl)]; rw [runs_step (h' := 1) (err_bare (by decide) (by decide) (by decide)) (by rfl)]; rw [runs_step (h' := 2) (err_lit (by omega) (by decide)) (by rfl)]; rw [runs_step (h' := 1) (err_bare (by decide) (by decide) (by decide)) (by rfl)]; rfl) (by simp) (by simp) (by unfold kindF; rw [fold_step (v := 2) (st' := [2]) (made_id _ _) (by rfl)]; rw [fold_step (v := 2) (st' := [2, 2]) (made_lit _ _ _) (by rfl)]; rw [fold_step (v := 2) (st' := [2]) (made_bare (by decide) (by decide) (by rfl)) (by rfl)]; rw [fold_step (v := 2) (st' := [2, 2]) (made_lit _ _ _) (by rfl)]; rw [fold_step (v := 1) (st' := [1]) (made_bare (by decide) (by decide) (by rfl)) (by rfl)]; rfl) (.inl rfl)]
 rw [show narF idB [idO, litO x, bareOp 8, litO x, bareOp 7].length [idO, litO x, bareOp 8, litO x, bareOp 7] ([], []) = leafB idB [idO, litO x, bareOp 8, litO x, bareOp 7] false ([], []) from rfl]
 rw [show ∀ b, leafB idB [idO, litO x, bareOp 8, litO x, bareOp 7] false b = b from fun b => leaf_not3 (.inl (by simp))]

theorem none6 {x : Int} (hx : 0 ≤ x) : boundsR colsL [idO, litO x, bareOp 7, bareOp 5, bareOp 5] = (([], []), 0) := by
 rw [bounds_eval (ops := [idO, litO x, bareOp 7, bareOp 5, bareOp 5]) (k := 1) (by rw [runs_step (h' := 1) (err_id (by decide)) (by rfl)]; rw [runs_step (h' := 2) (err_lit (by omega) (by decide)) (by rfl)]; rw [runs_step (h' := 1) (err_bare (by decide) (by decide) (by decide)) (by rfl)]; rw [runs_step (h' := 1) (err_bare (by decide) (by decide) (by decide)) (by rfl)]; rw [runs_step (h' := 1) (err_bare (by decide) (by decide) (by decide)) (by rfl)]; rfl) (by simp) (by simp) (by unfold kindF; rw [fold_step (v := 2) (st' := [2]) (made_id _ _) (by rfl)]; rw [fold_step (v := 2) (st' := [2, 2]) (made_lit _ _ _) (by rfl)]; rw [fold_step (v := 1) (st' := [1]) (made_bare (by decide) (by decide) (by rfl)) (by rfl)]; rw [fold_step (v := 1) (st' := [1]) (made_bare (by decide) (by decide) (by rfl)) (by rfl)]; rw [fold_step (v := 1) (st' := [1]) (made_bare (by decide) (by decide) (by rfl)) (by rfl)]; rfl) (.inl rfl)]
 rw [show narF idB [idO, litO x, bareOp 7, bareOp 5, bareOp 5].length [idO, litO x, bareOp 7, bareOp 5, bareOp 5] ([], []) = leafB idB [idO, litO x, bareOp 7, bareOp 5] true ([], []) from rfl]
 rw [show ∀ b, leafB idB [idO, litO x, bareOp 7, bareOp 5] true b = b from fun b => leaf_not3 (.inl (by simp))]

end Go.Proofs.YtfooincnmobemaaDoor.Ex

namespace Go.Proofs.YtfooincnmobemaaDoor.Ex
open Go.RowKit V Pk Vl Go.Proofs.YtfooincnmobemaaDoor.Nm Go.Proofs.YtfooincnmobemaaDoor.Pc Go.Proofs.YtfooincnmobemaaDoor.Cd
set_option linter.unusedVariables false
set_option linter.unusedSimpArgs false

variable {G : List (Nat × List Value)}
theorem ok_numV {x : Int} (h1 : 0 ≤ x) (h2 : x ≤ 9000) : (numV x).Ok := ok_int ⟨by omega, by omega⟩
def FineO (o : OpL) : Prop := o.nm.size ≤ maxLen ∧ o.v.Ok
theorem fine_id : FineO idO := ⟨by decide, ok_no⟩
theorem fine_nc : FineO colN := ⟨by decide, ok_no⟩
theorem fine_nul : FineO nulO := ⟨Nat.zero_le _, ok_no⟩
theorem fine_bare (k : Int) : FineO (bareOp k) := ⟨Nat.zero_le _, ok_no⟩
theorem fine_lit {x : Int} (h1 : 0 ≤ x) (h2 : x ≤ 9000) : FineO (litO x) := ⟨Nat.zero_le _, ok_numV h1 h2⟩
theorem fine_nil : ∀ o ∈ ([] : List OpL), FineO o := fun o h => by cases h
theorem fine_cons {o : OpL} {r : List OpL} (h : FineO o) (hr : ∀ o ∈ r, FineO o) : ∀ x ∈ o :: r, FineO x := fun x hx => by
 rcases List.mem_cons.1 hx with rfl | hx
 ·exact h
 ·exact hr x hx
theorem Bounds_at {m : Int} (hm : (3, marksC) ∈ G) (hw : (0, wordsC) ∈ G) (ht : (2, typesC) ∈ G) (hG : (1, [Value.int .i64 m]) ∈ G) (ops : List OpL) (hf : ∀ o ∈ ops, FineO o) : VP Tryd.prog G 16 [.list 2 (colsL.flatMap cC) colsL.length, .list 5 (ops.flatMap cO) ops.length] (bdD (boundsR colsL ops)) :=
 Bounds_vp hm hw ht hG colsL (by decide) cols_sz ops (fun o h => (hf o h).1) (fun o h => (hf o h).2)
def TGM (m : Int) : List (Nat × List Value) := [(3, marksC), (0, wordsC), (2, typesC), (1, [Value.int .i64 m])]
theorem tm1 {m : Int} : (3, marksC) ∈ TGM m := List.mem_cons_self
theorem tm2 {m : Int} : (0, wordsC) ∈ TGM m := List.mem_cons_of_mem _ List.mem_cons_self
theorem tm3 {m : Int} : (2, typesC) ∈ TGM m := List.mem_cons_of_mem _ (List.mem_cons_of_mem _ List.mem_cons_self)
theorem tm4 {m : Int} : (1, [Value.int .i64 m]) ∈ TGM m := List.mem_cons_of_mem _ (List.mem_cons_of_mem _ (List.mem_cons_of_mem _ List.mem_cons_self))
theorem tgmx {w : World} {m : Int} (h1 : MarksTab w) (h2 : WordsTab w) (h3 : TypesTab w) (h4 : Tab.TabAt w 1 [Value.int .i64 m]) : ∀ g ∈ TGM m, g.2 ≠ [] ∧ TabX w g.1 g.2 := fun g hg => by
 simp only [TGM, List.mem_cons, List.not_mem_nil, or_false] at hg
 rcases hg with rfl | rfl | rfl | rfl
 ·exact ⟨by decide, .of h1 rfl⟩
 ·exact ⟨by decide, .of h2 rfl⟩
 ·exact ⟨by decide, .of h3 rfl⟩
 ·exact ⟨by simp, .of h4 rfl⟩

theorem places33_Exb : ∀ w, ((#[{ name := "Kind", type := 3, offset := 0, embedded := false, tag := "", pkgPath := "", byteOffset := 0 }, { name := "Int", type := 3, offset := 1, embedded := false, tag := "", pkgPath := "", byteOffset := 8 }, { name := "Text", type := 9, offset := 2, embedded := false, tag := "", pkgPath := "", byteOffset := 16 }] : Array Field).mapM fun f => do pure (f.offset, ← sizeOf f.type) : Sem (Array (Nat × Nat))).run Tryd.prog w = .ok #[(0, 1), (1, 1), (2, 1)] w := fun w => by simp [Tryd.sizeOf3, Tryd.sizeOf9]

set_option maxHeartbeats 4000000 in
set_option maxRecDepth 100000 in
theorem number_vp (x : Int) : VP Tryd.prog G 19 [.v (.int .i64 x)] (.agg (cV (numV x))) := by
 refine VC.body Tryd.func19 rfl Tryd.ntmps19 (Nat.le_of_ble_eq_true rfl) fun X0 w0 S00 => ?_
 refine CD.seq ?_
 refine CD.region ?_
 refine OD.alloc (ds := [_, _, _]) (wants_plain rfl) rfl rfl Tryd.zeroValue33 rfl (fun b2 => ?_)
 refine OD.wk (Wk.as_ (n := 5) (l' := [(0, _), (2, _)]) (S' := [⟨b2, 33, 3, [_, _, _]⟩]) rfl rfl ⟨lk, lk, trivial⟩) ?_
 refine OD.nil ?_
 refine CD.seq ?_
 refine CD.region ?_
 refine OD.still (wants_plain rfl) rfl (still_mv rfl ot) ?_
 refine OD.still (wants_plain rfl) rfl (still_bld (pl := [(0, _), (1, _)]) (ds := [_, _, _]) rfl Tryd.zeroValue33 Tryd.runUnderlying33 places33_Exb ⟨rfl, opd_const, rfl, ot, trivial⟩ rfl rfl) ?_
 refine OD.store (k := 0) (cs' := [_, _, _]) (wants_plain rfl) rfl rfl ot rfl rfl ot rfl rfl Tryd.sizeOf33 rfl rfl rfl ?_
 refine OD.wk (Wk.as_ (n := 5) (l' := [(2, _)]) (S' := [⟨b2, 33, 3, [_, _, _]⟩]) rfl rfl ⟨lk, trivial⟩) ?_
 refine OD.nil ?_
 refine CD.ret ?_
 refine ⟨.inr rfl, _, [], List.nil_sublist _, ret_one Tryd.results19 (res_cells (k := 0) (ds := [_, _, _]) (Nat.le_of_ble_eq_true rfl) lk rfl rfl Tryd.isAgg33 Tryd.sizeOf33 rfl rfl), ?_⟩
 exact ⟨rfl, rfl⟩

end Go.Proofs.YtfooincnmobemaaDoor.Ex
