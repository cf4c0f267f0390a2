/-
  What the proof of EvalColumn leans on, part 5 of 5: walks of the program's functions at the level of values, and plain facts of what they compute.
-/
import Derived.Test.YtfooincnmobemaaGreatDoorPEvalColumn4
namespace Go.Proofs.YtfooincnmobemaaGreatDoor.Ex
open Go.RowKit V Pk Vl Go.Proofs.YtfooincnmobemaaGreatDoor.Nm Go.Proofs.YtfooincnmobemaaGreatDoor.Pc Go.Proofs.YtfooincnmobemaaGreatDoor.Cd
set_option linter.unusedVariables false
set_option linter.unusedSimpArgs false

open Go.Lib (compareBytes)
/-- Where what ends ahead of a place begins. -/
def opK (ops : List OpL) (i : Nat) : Int := (ops.getD i (bareOp 0)).k
def begF (ops : List OpL) : Nat → Int → Nat
 | 0, _ => 0
 | i + 1, need => if need + (popsF (opK ops i) - 1) > 0 then begF ops i (need + (popsF (opK ops i) - 1)) else i
theorem opK_at {ops : List OpL} {i : Nat} (h : i < ops.length) : opK ops i = ops[i].k := by unfold opK; rw [List.getD_eq_getElem?_getD, List.getElem?_eq_getElem h]; rfl
theorem err_up {h h' : Int} {o : OpL} (he : opErr h o = 0) (hp : popsF o.k ≤ h') : opErr h' o = 0 := by
 unfold opErr at he ⊢
 split at he
 ·cases he
 ·rename_i q1; rw [if_neg q1]
  split at he
  ·rename_i h2; exact absurd he h2
  ·rename_i q2; rw [if_neg q2]
   split at he
   ·cases he
   ·rename_i q3; rw [if_neg q3]
    split at he
    ·rename_i h4; exact absurd he h4.2
    ·rename_i q4; rw [if_neg q4, if_neg (by omega)]
theorem runs_last {ops : List OpL} {n : Nat} {h : Int} (hn : n < ops.length) (e : runs 0 (ops.take (n + 1)) = some h) : ∃ h', runs 0 (ops.take n) = some h' ∧ opErr h' ops[n] = 0 ∧ h = h' + (1 - popsF ops[n].k) := by
 rw [List.take_succ_eq_append_getElem hn, runs_append] at e
 cases hr : runs 0 (ops.take n) with
 | none => rw [hr] at e; cases e
 | some h' =>
  rw [hr, Option.bind_some, runs] at e
  split at e
  ·rename_i he
   rw [runs] at e
   cases e
   exact ⟨h', rfl, he, rfl⟩
  ·cases e
theorem beg_spec {ops : List OpL} : ∀ (n : Nat) (need h : Int), n ≤ ops.length → runs 0 (ops.take n) = some h → 1 ≤ need → need ≤ h →
  begF ops n need < n ∧ runs 0 (ops.take (begF ops n need)) = some (h - need) ∧ ∀ k : Int, 0 ≤ k → runs k ((ops.take n).drop (begF ops n need)) = some (k + need)
 | 0, need, h, _, e, h1, h2 => by rw [List.take_zero, runs] at e; cases e; omega
 | n + 1, need, h, hn, e, h1, h2 => by
  have hlt : n < ops.length := by omega
  obtain ⟨h', e1, e2, e3⟩ := runs_last hlt e
  have hpb := pops_bd ops[n].k
  have hpo := (err_pops e2).1
  have hdrop : ∀ m, m ≤ n → (ops.take (n + 1)).drop m = (ops.take n).drop m ++ [ops[n]] := fun m hm => by
   rw [List.take_succ_eq_append_getElem hlt, List.drop_append, show m - (ops.take n).length = 0 by rw [List.length_take]; omega, List.drop_zero]
  rw [begF, opK_at hlt]
  by_cases hc : need + (popsF ops[n].k - 1) > 0
  ·rw [if_pos hc]
   obtain ⟨q1, q2, q3⟩ := beg_spec n (need + (popsF ops[n].k - 1)) h' (by omega) e1 (by omega) (by omega)
   refine ⟨by omega, by rw [q2]; congr 1; omega, fun k hk => ?_⟩
   rw [hdrop _ (by omega), runs_append, q3 k hk, Option.bind_some, runs, if_pos (err_up e2 (by omega)), runs]
   congr 1; omega
  ·rw [if_neg hc]
   refine ⟨by omega, by rw [e1]; congr 1; omega, fun k hk => ?_⟩
   rw [hdrop n (Nat.le_refl _), List.drop_of_length_le (by rw [List.length_take]; omega), List.nil_append, runs, if_pos (err_up e2 (by omega)), runs]
   congr 1; omega
def keyCol (key : ByteArray) (o : OpL) : Bool := o.k == 2 && o.nm.toList == key.toList
def litNN (o : OpL) : Bool := o.k == 1 && !(o.v.k == 0)
abbrev BdL := List UInt8 × List UInt8
def lowF (k : List UInt8) (b : BdL) : BdL := if compareBytes k b.1 > 0 then (k, b.2) else b
def highF (k : List UInt8) (b : BdL) : BdL := if b.2.length = 0 ∨ compareBytes k b.2 < 0 then (b.1, k) else b
/-- Bounds that a comparison of the key narrows: key, at a place; the value's key; what is compared, and whether it must not be. -/
def cutB (kc : Int) (eq not : Bool) (k : List UInt8) (b : BdL) : BdL :=
  bif eq || (kc == 0) != not then highF k (bif eq || (kc == 0) == not then lowF k b else b) else bif eq || (kc == 0) == not then lowF k b else b
def litK (ops : List OpL) : List UInt8 := (encR [(ops.getD (idxG litNN (ops.take 2)).toNat (bareOp 0)).v]).1
/-- Bounds narrowed by what is no AND; the ops without the NOT behind them. -/
def leafB (key : ByteArray) (ops : List OpL) (not : Bool) (b : BdL) : BdL :=
  if ops.length ≠ 3 ∨ (not = true ∧ opK ops (ops.length - 1) ≠ 7) ∨ (opK ops (ops.length - 1) ≠ 6 ∧ opK ops (ops.length - 1) ≠ 7) then b
  else if idxG (keyCol key) (ops.take 2) < 0 ∨ idxG litNN (ops.take 2) < 0 then b
  else cutB (idxG (keyCol key) (ops.take 2)) (opK ops (ops.length - 1) == 6) not (litK ops) b
/-- Bounds narrowed by an expression. -/
def narF (key : ByteArray) : Nat → List OpL → BdL → BdL
  | 0, _, b => b
  | f + 1, ops, b =>
    if opK ops (ops.length - 1) = 3 then narF key f ((ops.take (ops.length - 1)).drop (begF ops (ops.length - 1) 1)) (narF key f (ops.take (begF ops (ops.length - 1) 1)) b)
    else if opK ops (ops.length - 1) = 5 then leafB key (ops.take (ops.length - 1)) true b
    else leafB key ops false b
variable {G : List (Nat × List Value)} {m : Int}

set_option maxHeartbeats 4000000 in
set_option maxRecDepth 100000 in
theorem begins_vp (ops : List OpL) (h40 : ops.length ≤ 40) (n : Nat) (hn : n ≤ ops.length) (h : Int) (hr : runs 0 (ops.take n) = some h) (h1 : 1 ≤ h) : VP Tryz.prog G 36 [.list 5 (ops.flatMap cO) ops.length, .v (.int .i64 (n : Nat))] (.v (.int .i64 (begF ops n 1 : Nat))) := by
 refine VC.body Tryz.func36 rfl Tryz.ntmps36 (Nat.le_of_ble_eq_true rfl) fun X0 w0 S00 => ?_
 refine sr_ ?_
 refine os_ mv_ ?_
 refine nm_ [0, 1] ?_
 refine sr_ ?_
 refine os_ mv_ ?_
 refine os_ mv_ ?_
 refine nm_ [0, 5] ?_
 refine CD.seq ?_
 refine sr_ ?_
 refine os_ mv_ ?_
 refine nm_ [0, 5, 6] ?_
 refine CD.block ?_
 refine CD.wk (Wk.asS (n := 22) (l' := [(0, .list 5 (ops.flatMap cO) ops.length), (5, .v (.int .i64 (n : Nat))), (6, .v (.int .i64 (1)))]) (S' := []) rfl (by repeat (first | exact List.Sublist.refl _ | apply List.Sublist.cons)) ⟨(by (repeat (first | exact look_hit | (apply look_at; focus (first | rfl | (simp; done) | (congr 2; omega))) | (apply look_miss; focus rfl))); done), (by (repeat (first | exact look_hit | (apply look_at; focus (first | rfl | (simp; done) | (congr 2; omega))) | (apply look_miss; focus rfl))); done), (by (repeat (first | exact look_hit | (apply look_at; focus (first | rfl | (simp; done) | (congr 2; omega))) | (apply look_miss; focus rfl))); done), trivial⟩) (CD.loop (fun (gh__ : Nat × Int) y__ => match gh__ with | (i, need) => (i ≤ n) ∧ (0 ≤ need) ∧ (need ≤ 1 + 2 * ((n : Int) - i)) ∧ ((need = 0 ∧ begF ops n 1 = i) ∨ (1 ≤ need ∧ begF ops n 1 = begF ops i need ∧ ∃ h, runs 0 (ops.take i) = some h ∧ need ≤ h)) ∧ y__ = (⟨22, [(0, .list 5 (ops.flatMap cO) ops.length), (5, .v (.int .i64 (i : Nat))), (6, .v (.int .i64 need))], []⟩ : St)) (fun (gh__ : Nat × Int) => match gh__ with | (i, need) => i) (n, 1) ⟨(Nat.le_refl _), (by decide), (by omega), (.inr ⟨by decide, rfl, h, hr, h1⟩), rfl⟩ ?_)
 rintro ⟨i, need⟩ _ ⟨hi, hn0, hnb, hinv, rfl⟩
 refine CD.seq ?_
 refine sr_ ?_
 refine os_ mv_ ?_
 refine os_ bn_ ?_
 refine nm_ [0, 5, 6, 9] ?_
 refine CD.cond ot (fun hc0 => ?_) (fun hc0 => ?_)
 ·have hc0' := hc0
  (try simp only [V.cnd, ne_eq] at hc0')
  obtain ⟨hz, _⟩ | ⟨hn1, hbe, h2, e1, e2⟩ := hinv
  ·omega
  have hi0 : 0 < i := by rcases Nat.eq_zero_or_pos i with rfl | h; rw [List.take_zero, runs] at e1; cases e1; omega; exact h
  have hiw1 : -9223372036854775808 ≤ ((i - 1 : Nat) : Int) := by omega
  have hiw2 : ((i - 1 : Nat) : Int) ≤ 9223372036854775807 := by omega
  have hi1 : (i : Int) - 1 = ((i - 1 : Nat) : Int) := by omega
  have hlt : i - 1 < ops.length := by omega
  have hpb := pops_bd ops[i - 1].k
  obtain ⟨h3, e3, e4, e5⟩ := runs_last hlt (by rw [show i - 1 + 1 = i by omega]; exact e1)
  have hpo := (err_pops e4).1
  have hbs : begF ops i need = if need + (popsF ops[i - 1].k - 1) > 0 then begF ops (i - 1) (need + (popsF ops[i - 1].k - 1)) else i - 1 := by obtain ⟨j, rfl⟩ : ∃ j, i = j + 1 := ⟨i - 1, by omega⟩; rw [begF, opK_at (by omega)]; rfl
  have hnx : (need + (popsF ops[i - 1].k - 1) = 0 ∧ begF ops n 1 = i - 1) ∨ (1 ≤ need + (popsF ops[i - 1].k - 1) ∧ begF ops n 1 = begF ops (i - 1) (need + (popsF ops[i - 1].k - 1)) ∧ ∃ h, runs 0 (ops.take (i - 1)) = some h ∧ need + (popsF ops[i - 1].k - 1) ≤ h) := by (by_cases hc : need + (popsF ops[i - 1].k - 1) > 0); exact .inr ⟨by omega, by rw [hbe, hbs, if_pos hc], h3, e3, by omega⟩; exact .inl ⟨by omega, by rw [hbe, hbs, if_neg hc]⟩
  refine CD.skip ?_
  refine CD.block ?_
  refine sr_ ?_
  refine os_ mv_ ?_
  refine OD.still (wants_plain rfl) rfl (still_bin rfl ot opd_const (bin_sub (r := ((i - 1 : Nat) : Int)) (by rw [hi1]; exact wrap_i64 hiw1 hiw2))) ?_
  refine os_ mv_ ?_
  refine OD.wk (Wk.as_ (n := 22) (l' := [(0, _), (5, _), (6, _)]) (S' := []) rfl rfl ⟨lk, lk, lk, trivial⟩) ?_
  refine OD.nil ?_
  refine CD.region ?_
  refine os_ mv_ ?_
  refine os_ mv_ ?_
  refine os_ mv_ ?_
  refine os_ (ix_ 5 (h := by first | exact .l (j := i - 1) rfl (by omega) | exact .r (j := i - 1) rfl (by omega))) ?_
  refine os_ (fa_ 0) ?_
  refine os_ ld_ ?_
  refine OD.callP (wants_plain rfl) rfl rfl rfl Tryz.call27 (works_vp ops[i - 1].k) ⟨ot, trivial⟩ ?_
  refine os_ bn_ ?_
  refine os_ bn_ ?_
  refine os_ mv_ ?_
  refine OD.wk (Wk.as_ (n := 22) (l' := [(0, _), (5, _), (6, _)]) (S' := []) rfl rfl ⟨lk, lk, lk, trivial⟩) ?_
  refine OD.nil ?_
  refine ⟨((i - 1), (need + (popsF ops[i - 1].k - 1))), ⟨22, [(0, .list 5 (ops.flatMap cO) ops.length), (5, .v (.int .i64 (((i - 1)) : Nat))), (6, .v (.int .i64 ((need + (popsF ops[i - 1].k - 1)))))], []⟩, ?_, Wk.asS (n := 22) rfl (by repeat (first | exact List.Sublist.refl _ | apply List.Sublist.cons)) ⟨(by (repeat (first | exact look_hit | (apply look_at; focus (first | rfl | (simp; done) | (congr 2; omega))) | (apply look_miss; focus rfl))); done), (by (repeat (first | exact look_hit | (apply look_at; focus (first | rfl | (simp; done) | (congr 2; omega))) | (apply look_miss; focus rfl))); done), (by (repeat (first | exact look_hit | (apply look_at; focus (first | rfl | (simp; done) | (congr 2; omega))) | (apply look_miss; focus rfl))); done), trivial⟩, (by omega), (by omega), (by omega), hnx, rfl⟩
  first | omega | (simp only []; omega)
 ·have hc0' := hc0
  (try simp only [V.cnd, ne_eq] at hc0')
  have hres : begF ops n 1 = i := by rcases hinv with ⟨_, h⟩ | ⟨h, _⟩; exact h; omega
  refine CD.exit ?_
  refine sr_ ?_
  refine os_ mv_ ?_
  refine os_ mv_ ?_
  refine nm_ [4] ?_
  refine CD.ret ?_
  refine r1_ ?_
  rw [hres]; exact ⟨rfl, rfl⟩

set_option maxHeartbeats 4000000 in
set_option maxRecDepth 100000 in
theorem indexO_vc (ls : List OpL) (g : Nat) (caps : List D) (S : List Blk) (p : OpL → Bool) (hcall : ∀ args w, (callFunc g args).run Tryz.prog w = .ok (.enter g args) w) (hp : ∀ x ∈ ls, VC Tryz.prog G g (.agg (cO x) :: caps) S (fun r S' => r = .v (.bool (p x)) ∧ S' = S)) (hlen : ls.length ≤ 1000000) : VC Tryz.prog G 37 [.list 5 (ls.flatMap cO) ls.length, .clo (.func g) caps] S (fun r S' => r = .v (.int .i64 (idxG p ls)) ∧ S' = S) := by
 refine VC.body Tryz.func37 rfl Tryz.ntmps37 (Nat.le_of_ble_eq_true rfl) fun X0 w0 S00 => ?_
 unfold cO at hp
 refine sr_ ?_
 refine os_ mv_ ?_
 refine OD.wk (Wk.as_ (n := 19) (l' := [(0, _), (1, _)]) (S' := S) rfl (by first | rfl | simp [St.put]) ⟨lk, lk, trivial⟩) ?_
 refine OD.nil ?_
 refine CD.seq ?_
 refine sr_ ?_
 refine os_ mv_ ?_
 refine os_ ln_ ?_
 refine os_ mv_ ?_
 refine OD.wk (Wk.as_ (n := 19) (l' := [(0, _), (1, _), (7, _), (8, _)]) (S' := S) rfl (by first | rfl | simp [St.put]) ⟨lk, lk, lk, lk, trivial⟩) ?_
 refine OD.nil ?_
 refine CD.block ?_
 refine CD.wk (Wk.asS (n := 19) (l' := [(0, .list 5 (ls.flatMap cO) ls.length), (1, .clo (.func g) caps), (7, .v (.int .i64 ls.length)), (8, .v (.int .i64 ((0) : Nat)))]) (S' := S) rfl (by repeat (first | exact List.Sublist.refl _ | apply List.Sublist.cons)) ⟨(by (repeat (first | exact look_hit | (apply look_at; focus (first | rfl | (simp; done) | (congr 2; omega))) | (apply look_miss; focus rfl))); done), (by (repeat (first | exact look_hit | (apply look_at; focus (first | rfl | (simp; done) | (congr 2; omega))) | (apply look_miss; focus rfl))); done), (by (repeat (first | exact look_hit | (apply look_at; focus (first | rfl | (simp; done) | (congr 2; omega))) | (apply look_miss; focus rfl))); done), (by (repeat (first | exact look_hit | (apply look_at; focus (first | rfl | (simp; done) | (congr 2; omega))) | (apply look_miss; focus rfl))); done), trivial⟩) (CD.loop (fun (k : Nat) y__ => (k ≤ ls.length) ∧ (∀ x ∈ ls.take k, p x = false) ∧ y__ = (⟨19, [(0, .list 5 (ls.flatMap cO) ls.length), (1, .clo (.func g) caps), (7, .v (.int .i64 ls.length)), (8, .v (.int .i64 (k : Nat)))], S⟩ : St)) (fun (k : Nat) => ls.length - k) 0 ⟨Nat.zero_le _, (by simp), rfl⟩ ?_)
 rintro k _ ⟨hk, h0, rfl⟩
 refine sr_ ?_
 refine os_ bn_ ?_
 refine OD.wk (Wk.as_ (n := 19) (l' := [(0, _), (1, _), (7, _), (8, _), (9, _)]) (S' := S) rfl (by first | rfl | simp [St.put]) ⟨lk, lk, lk, lk, lk, trivial⟩) ?_
 refine OD.nil ?_
 refine CD.seq ?_
 refine CD.cond ot (fun hc0 => ?_) (fun hc0 => ?_)
 ·have hc0' := hc0
  (try simp only [V.cnd, ne_eq] at hc0')
  refine CD.skip ?_
  refine CD.seq ?_
  refine CD.block ?_
  refine sr_ ?_
  refine os_ mv_ ?_
  refine os_ mv_ ?_
  refine OD.wk (Wk.as_ (n := 19) (l' := [(0, _), (1, _), (5, _), (7, _), (8, _)]) (S' := S) rfl (by first | rfl | simp [St.put]) ⟨lk, lk, lk, lk, lk, trivial⟩) ?_
  refine OD.nil ?_
  refine sr_ ?_
  refine os_ mv_ ?_
  refine os_ mv_ ?_
  refine os_ mv_ ?_
  refine os_ (ix_ 5) ?_
  refine os_ (la_ [_, _, _, _, _]) ?_
  refine OD.callv (f := g) (args := [_]) (wants_plain rfl) rfl rfl (opd_tmp rfl lk) hcall (hp (ls[k]'(by omega)) (List.getElem_mem _)) rfl ⟨opd_tmp rfl lk, trivial⟩ (perm_all _) ?_; rintro _ S2 ⟨rfl, hS2⟩; rw [hS2]; clear hS2
  refine OD.wk (Wk.as_ (n := 19) (l' := [(0, _), (1, _), (5, _), (7, _), (8, _), (16, _)]) (S' := S) rfl (by first | rfl | simp [St.put]) ⟨lk, lk, lk, lk, lk, lk, trivial⟩) ?_
  refine OD.nil ?_
  refine CD.cond ot (fun hc1 => ?_) (fun hc1 => ?_)
  ·have hc1' := hc1
   (try simp only [V.cnd, ne_eq] at hc1')
   refine sr_ ?_
   refine os_ mv_ ?_
   refine os_ mv_ ?_
   refine OD.wk (Wk.as_ (n := 19) (l' := [(4, _)]) (S' := S) rfl (by first | rfl | simp [St.put]) ⟨lk, trivial⟩) ?_
   refine OD.nil ?_
   refine CD.ret ?_
   refine ⟨.inr rfl, _, S, (by repeat (first | exact List.Sublist.refl _ | apply List.Sublist.cons)), ret_one Tryz.results37 (res_tmp (Nat.le_of_ble_eq_true rfl) lk), ?_⟩
   refine ⟨?_, rfl⟩; first | (rw [idxG_hit (by omega) h0 (by assumption)]) | (rw [idxG_none (by omega) h0])
  ·have hc1' := hc1
   (try simp only [V.cnd, ne_eq] at hc1')
   refine CD.skip ?_
   refine CD.region ?_
   refine os_ bn_ ?_
   refine os_ mv_ ?_
   refine OD.wk (Wk.as_ (n := 19) (l' := [(0, _), (1, _), (7, _), (8, _)]) (S' := S) rfl (by first | rfl | simp [St.put]) ⟨lk, lk, lk, lk, trivial⟩) ?_
   refine OD.nil ?_
   refine ⟨k + 1, ⟨19, [(0, .list 5 (ls.flatMap cO) ls.length), (1, .clo (.func g) caps), (7, .v (.int .i64 ls.length)), (8, .v (.int .i64 ((k + 1) : Nat)))], S⟩, ?_, Wk.asS (n := 19) rfl (by repeat (first | exact List.Sublist.refl _ | apply List.Sublist.cons)) ⟨(by (repeat (first | exact look_hit | (apply look_at; focus (first | rfl | (simp; done) | (congr 2; omega))) | (apply look_miss; focus rfl))); done), (by (repeat (first | exact look_hit | (apply look_at; focus (first | rfl | (simp; done) | (congr 2; omega))) | (apply look_miss; focus rfl))); done), (by (repeat (first | exact look_hit | (apply look_at; focus (first | rfl | (simp; done) | (congr 2; omega))) | (apply look_miss; focus rfl))); done), (by (repeat (first | exact look_hit | (apply look_at; focus (first | rfl | (simp; done) | (congr 2; omega))) | (apply look_miss; focus rfl))); done), trivial⟩, (by omega), (by rw [List.take_succ_eq_append_getElem (by omega)]; intro x hx; rcases List.mem_append.1 hx with hx | hx; exact h0 x hx; simp only [List.mem_singleton] at hx; subst hx; assumption), rfl⟩
   first | omega | (simp only []; omega)
 ·have hc0' := hc0
  (try simp only [V.cnd, ne_eq] at hc0')
  refine CD.exit ?_
  refine sr_ ?_
  refine os_ mv_ ?_
  refine OD.wk (Wk.as_ (n := 19) (l' := [(4, _)]) (S' := S) rfl (by first | rfl | simp [St.put]) ⟨lk, trivial⟩) ?_
  refine OD.nil ?_
  refine CD.ret ?_
  refine ⟨.inr rfl, _, S, (by repeat (first | exact List.Sublist.refl _ | apply List.Sublist.cons)), ret_one Tryz.results37 (res_tmp (Nat.le_of_ble_eq_true rfl) lk), ?_⟩
  refine ⟨?_, rfl⟩; first | (rw [idxG_hit (by omega) h0 (by assumption)]) | (rw [idxG_none (by omega) h0])

set_option maxHeartbeats 4000000 in
set_option maxRecDepth 100000 in
theorem narcl1_vc (o : OpL) (nm : ByteArray) (b : Nat) : VC Tryz.prog G 38 [.agg (cO o), .v (.pointer (some ⟨b, 0, none⟩))] [⟨b, 9, 1, [.v (.string nm)]⟩] (fun r S => r = .v (.bool (keyCol nm o)) ∧ S = [⟨b, 9, 1, [.v (.string nm)]⟩]) := by
 refine VC.body Tryz.func38 rfl Tryz.ntmps38 (Nat.le_of_ble_eq_true rfl) fun X0 w0 S00 => ?_
 unfold cO keyCol
 refine sr_ ?_
 refine OD.box (ds := [_, _, _, _, _]) (wants_plain rfl) rfl rfl ot rfl rfl (fun b2 => ?_)
 refine os_ mv_ ?_
 refine OD.wk (Wk.as_ (n := 13) (l' := [(1, _), (2, _)]) (S' := [⟨b2, 35, 5, [_, _, _, _, _]⟩, ⟨_, _, _, [_]⟩]) rfl rfl ⟨lk, lk, trivial⟩) ?_
 refine OD.nil ?_
 refine sr_ ?_
 refine os_ (fa_ 0) ?_
 refine os_ (lb_ 0) ?_
 refine os_ bn_ ?_
 refine os_ mv_ ?_
 refine OD.split (t := 7) lk (fun hg7 => ?_) (fun hg7 => ?_)
 ·have hg7' := hg7; (try simp only [V.cnd, ne_eq] at hg7')
  refine os_ (fa_ 4) ?_
  refine os_ (lb_ 0) ?_
  refine os_ (lb_ 1) ?_
  refine os_ bn_ ?_
  refine os_ pkT_ ?_
  refine os_ mv_ ?_
  refine nm_ [3] ?_
  refine CD.ret ?_
  refine ⟨.inr rfl, _, [⟨b, 9, 1, [.v (.string nm)]⟩], (by repeat (first | exact List.Sublist.refl _ | apply List.Sublist.cons)), ret_one Tryz.results38 (res_tmp (Nat.le_of_ble_eq_true rfl) lk), ?_⟩
  first | exact ⟨rfl, rfl⟩ | (refine ⟨vb ?_, rfl⟩; simp_all)
 ·have hg7' := hg7; (try simp only [V.cnd, ne_eq] at hg7')
  refine sk_ ?_
  refine sk_ ?_
  refine sk_ ?_
  refine sk_ ?_
  refine os_ pkF_ ?_
  refine os_ mv_ ?_
  refine nm_ [3] ?_
  refine CD.ret ?_
  refine ⟨.inr rfl, _, [⟨b, 9, 1, [.v (.string nm)]⟩], (by repeat (first | exact List.Sublist.refl _ | apply List.Sublist.cons)), ret_one Tryz.results38 (res_tmp (Nat.le_of_ble_eq_true rfl) lk), ?_⟩
  first | exact ⟨rfl, rfl⟩ | (refine ⟨vb ?_, rfl⟩; simp_all)

set_option maxHeartbeats 4000000 in
set_option maxRecDepth 100000 in
theorem narcl2_vp (o : OpL) : VC Tryz.prog G 39 [.agg (cO o)] [] (fun r S => r = .v (.bool (litNN o)) ∧ S = []) := by
 refine VC.body Tryz.func39 rfl Tryz.ntmps39 (Nat.le_of_ble_eq_true rfl) fun X0 w0 S00 => ?_
 unfold cO litNN
 refine sr_ ?_
 refine OD.box (ds := [_, _, _, _, _]) (wants_plain rfl) rfl rfl ot rfl rfl (fun b1 => ?_)
 refine os_ mv_ ?_
 refine OD.wk (Wk.as_ (n := 12) (l' := [(1, _)]) (S' := [⟨b1, 35, 5, [_, _, _, _, _]⟩]) rfl rfl ⟨lk, trivial⟩) ?_
 refine OD.nil ?_
 refine sr_ ?_
 refine os_ (fa_ 0) ?_
 refine os_ (lb_ 0) ?_
 refine os_ bn_ ?_
 refine os_ mv_ ?_
 refine OD.split (t := 6) lk (fun hg6 => ?_) (fun hg6 => ?_)
 ·have hg6' := hg6; (try simp only [V.cnd, ne_eq] at hg6')
  refine os_ (fa_ 1) ?_
  refine os_ (fa_ 0) ?_
  refine os_ (lb_ 0) ?_
  refine os_ bn_ ?_
  refine os_ pkT_ ?_
  refine os_ mv_ ?_
  refine nm_ [2] ?_
  refine CD.ret ?_
  refine r1_ ?_
  first | exact ⟨rfl, rfl⟩ | (refine ⟨vb ?_, rfl⟩; simp_all; done) | (refine ⟨vb ?_, rfl⟩; simp_all; rfl)
 ·have hg6' := hg6; (try simp only [V.cnd, ne_eq] at hg6')
  refine sk_ ?_
  refine sk_ ?_
  refine sk_ ?_
  refine sk_ ?_
  refine os_ pkF_ ?_
  refine os_ mv_ ?_
  refine nm_ [2] ?_
  refine CD.ret ?_
  refine r1_ ?_
  first | exact ⟨rfl, rfl⟩ | (refine ⟨vb ?_, rfl⟩; simp_all; done) | (refine ⟨vb ?_, rfl⟩; simp_all; rfl)

set_option maxHeartbeats 4000000 in
set_option maxRecDepth 100000 in
theorem bcmp_vp (a b : List UInt8) : VP Tryz.prog G 40 [.list 1 (a.flatMap cB) a.length, .list 1 (b.flatMap cB) b.length] (.v (.int .i64 (compareBytes a b))) := by
 refine VC.body Tryz.func40 rfl Tryz.ntmps40 (Nat.le_of_ble_eq_true rfl) fun X0 w0 S00 => ?_
 refine sr_ ?_
 refine os_ mv_ ?_
 refine nm_ [0, 1] ?_
 refine sr_ ?_
 refine os_ mv_ ?_
 refine os_ mv_ ?_
 refine OD.still (wants_plain rfl) rfl (still_bytecmp rfl ot ot Tryz.func59 (by kernel_rfl) (by kernel_rfl) (by kernel_rfl) (by kernel_rfl)) ?_
 refine os_ mv_ ?_
 refine OD.wk (Wk.as_ (n := 8) (l' := [(4, _)]) (S' := []) rfl rfl ⟨lk, trivial⟩) ?_
 refine OD.nil ?_
 refine CD.ret ?_
 refine ⟨.inr rfl, _, [], List.nil_sublist _, ret_one Tryz.results40 (res_tmp (Nat.le_of_ble_eq_true rfl) lk), ?_⟩
 exact ⟨rfl, rfl⟩

theorem info5_Ex8 : (Tryz.prog.info? 5).map (fun i => (i.zero, i.size, i.bytes)) = some (some (.int .u8 0), 1, 1) := by kernel_rfl

set_option maxHeartbeats 4000000 in
set_option maxRecDepth 100000 in
theorem clone_vp (a : List UInt8) (ha : a.length ≤ 1000) : VP Tryz.prog G 41 [.list 1 (a.flatMap cB) a.length] (.list 1 (a.flatMap cB) a.length) := by
 refine VC.body Tryz.func41 rfl Tryz.ntmps41 (Nat.le_of_ble_eq_true rfl) fun X0 w0 S00 => ?_
 have hmx : maxLen = 9223372036854775807 := rfl
 refine sr_ ?_
 refine os_ mv_ ?_
 refine nm_ [0] ?_
 refine CD.seq ?_
 refine sr_ ?_
 refine os_ mv_ ?_
 refine OD.eqNil (wants_plain rfl) rfl rfl ot opd_const Tryz.underlying39 (fun bn hbn => ?_)
 refine OD.wk (Wk.as_ (n := 8) (l' := [(0, _), (4, _)]) (S' := []) rfl rfl ⟨lk, lk, trivial⟩) ?_
 refine OD.nil ?_
 refine CD.cond ot (fun hc0 => ?_) (fun hc0 => ?_)
 ·have hc0' := hc0
  (try simp only [V.cnd, ne_eq] at hc0')
  obtain ⟨hz, _⟩ := hbn hc0
  obtain rfl := List.length_eq_zero_iff.1 hz
  refine sr_ ?_
  refine os_ mv_ ?_
  refine nm_ [2] ?_
  refine CD.wk (Wk.giveNil (t := 2) (sz := 1) lk) ?_
  refine CD.ret ?_
  refine r1_ ?_
  exact ⟨rfl, rfl⟩
 ·have hc0' := hc0
  (try simp only [V.cnd, ne_eq] at hc0')
  refine CD.skip ?_
  refine sr_ ?_
  refine OD.bldS0 (wants_plain rfl) rfl rfl Tryz.runUnderlying39 Tryz.sizeOf5 (fun b5 => ?_)
  refine os_ mv_ ?_
  refine OD.appendAny (ls := ([] : List UInt8)) (new := a) (Sq := [⟨b5, 5, 0 * 1, []⟩]) cB_len cB_one (wants_plain rfl) rfl rfl Tryz.underlying39 info5_Ex8 rfl (by decide) Tryz.runUnderlying39 Tryz.sizeOf5 ot (.inr ⟨b5, rfl, Nat.le_refl _, Nat.zero_le _, rfl⟩) (perm_r11 (A := [])) ot (by simp; omega) (by simp; omega) (fun ad7 cp7 S7 ho7 => ?_)
  refine OD.perm (perm_q11 (A := [])) ?_
  refine os_ mv_ ?_
  refine OD.wk (Wk.as_ (n := 8) (l' := [(2, _)]) (S' := (S7)) rfl rfl ⟨lk, trivial⟩) ?_
  refine OD.nil ?_
  refine CD.giveL (t := 2) (Sq := S7) lk ho7 (fm_len cB_len _) (perm_r11 (A := [])) ?_
  refine CD.ret ?_
  refine ⟨.inr rfl, _, [], List.nil_sublist _, ret_one Tryz.results41 (res_tmp (Nat.le_of_ble_eq_true rfl) lk), ?_⟩
  exact ⟨rfl, rfl⟩

theorem enc_len (l : List Vl) : (encR l).1.length ≤ 100 := by
 unfold encR
 split
 ·simp
 ·split
  ·simp
  ·split
   ·simp
   ·simpa using by omega
theorem low_len {k : List UInt8} {b : BdL} (hk : k.length ≤ 100) (h1 : b.1.length ≤ 100) (h2 : b.2.length ≤ 100) : (lowF k b).1.length ≤ 100 ∧ (lowF k b).2.length ≤ 100 := by unfold lowF; split <;> exact ⟨by assumption, by assumption⟩
theorem high_len {k : List UInt8} {b : BdL} (hk : k.length ≤ 100) (h1 : b.1.length ≤ 100) (h2 : b.2.length ≤ 100) : (highF k b).1.length ≤ 100 ∧ (highF k b).2.length ≤ 100 := by unfold highF; split <;> exact ⟨by assumption, by assumption⟩
theorem cut_len {kc : Int} {eq not : Bool} {k : List UInt8} {b : BdL} (hk : k.length ≤ 100) (h1 : b.1.length ≤ 100) (h2 : b.2.length ≤ 100) : (cutB kc eq not k b).1.length ≤ 100 ∧ (cutB kc eq not k b).2.length ≤ 100 := by
 unfold cutB
 have q1 := low_len hk h1 h2
 have q2 := high_len hk h1 h2
 have q3 := high_len hk q1.1 q1.2
 cases (eq || (kc == 0) != not) <;> cases (eq || (kc == 0) == not)
 ·exact ⟨h1, h2⟩
 ·exact q1
 ·exact q2
 ·exact q3
theorem leaf_len {key : ByteArray} {ops : List OpL} {not : Bool} {b : BdL} (h1 : b.1.length ≤ 100) (h2 : b.2.length ≤ 100) : (leafB key ops not b).1.length ≤ 100 ∧ (leafB key ops not b).2.length ≤ 100 := by
 unfold leafB
 split
 ·exact ⟨h1, h2⟩
 ·split
  ·exact ⟨h1, h2⟩
  ·exact cut_len (enc_len _) h1 h2
theorem nar_len (key : ByteArray) : ∀ (f : Nat) (ops : List OpL) (b : BdL), b.1.length ≤ 100 → b.2.length ≤ 100 → (narF key f ops b).1.length ≤ 100 ∧ (narF key f ops b).2.length ≤ 100
 | 0, _, b, h1, h2 => ⟨h1, h2⟩
 | f + 1, ops, b, h1, h2 => by
  rw [narF]
  split
  ·have q := nar_len key f (ops.take (begF ops (ops.length - 1) 1)) b h1 h2
   exact nar_len key f _ _ q.1 q.2
  ·split
   ·exact leaf_len h1 h2
   ·exact leaf_len h1 h2
theorem runs_pos {ops : List OpL} (h : runs 0 ops = some 1) : 1 ≤ ops.length := by
 cases ops with
 | nil => rw [runs] at h; cases h
 | cons => simp
/-- What stands behind the last op of an expression. -/
theorem runs_end {ops : List OpL} (h : runs 0 ops = some 1) : ∃ (hn : ops.length - 1 < ops.length), runs 0 (ops.take (ops.length - 1)) = some (popsF ops[ops.length - 1].k) := by
  have hp := runs_pos h
  have hlt : ops.length - 1 < ops.length := by omega
  refine ⟨hlt, ?_⟩
  obtain ⟨h', e1, e2, e3⟩ := runs_last hlt (by rw [show ops.length - 1 + 1 = ops.length by omega, List.take_length]; exact h)
  rw [e1]; congr 1; omega
theorem and_mid {ops : List OpL} (h : runs 0 ops = some 1) (hk : opK ops (ops.length - 1) = 3) : begF ops (ops.length - 1) 1 < ops.length - 1 ∧ runs 0 (ops.take (begF ops (ops.length - 1) 1)) = some 1 ∧ runs 0 ((ops.take (ops.length - 1)).drop (begF ops (ops.length - 1) 1)) = some 1 ∧ runs 0 (ops.take (ops.length - 1)) = some 2 := by
 obtain ⟨hn, e⟩ := runs_end h
 rw [opK_at hn] at hk
 rw [hk] at e
 obtain ⟨q1, q2, q3⟩ := beg_spec (ops.length - 1) 1 2 (by omega) e (by decide) (by decide)
 exact ⟨q1, q2, q3 0 (by decide), e⟩

variable {key : ByteArray}
theorem op_val {ls : List OpL} {j : Nat} (h : j < ls.length) : ((ls.flatMap cO).drop (j * 5 + 1)).take 3 = cV ls[j].v := by
 rw [← List.drop_drop, fm_drop cO_len, List.drop_eq_getElem_cons h, List.flatMap_cons]; rfl

set_option maxHeartbeats 4000000 in
set_option maxRecDepth 100000 in
theorem nar_step (hG : (2, [Value.int .i64 m]) ∈ G) (key : ByteArray) (f : Nat) (hf : f ≤ 40) (IH : ∀ (ops : List OpL) (lo hi : List UInt8), ops.length ≤ f → runs 0 ops = some 1 → (∀ o ∈ ops, o.v.Ok) → lo.length ≤ 100 → hi.length ≤ 100 → ∀ b0, VC Tryz.prog G 21 [.v (.pointer (some ⟨b0, 0, none⟩)), .v (.string key), .list 5 (ops.flatMap cO) ops.length] [⟨b0, 58, 2, [.list 1 (lo.flatMap cB) lo.length, .list 1 (hi.flatMap cB) hi.length]⟩] (fun r S => r = .tup [] ∧ S = [⟨b0, 58, 2, [.list 1 ((narF key f ops (lo, hi)).1.flatMap cB) (narF key f ops (lo, hi)).1.length, .list 1 ((narF key f ops (lo, hi)).2.flatMap cB) (narF key f ops (lo, hi)).2.length]⟩])) (ops : List OpL) (lo hi : List UInt8) (hl : ops.length ≤ f + 1) (h40 : ops.length ≤ 40) (hr : runs 0 ops = some 1) (hok : ∀ o ∈ ops, o.v.Ok) (hlo : lo.length ≤ 100) (hhi : hi.length ≤ 100) (b0 : Nat) : VC Tryz.prog G 21 [.v (.pointer (some ⟨b0, 0, none⟩)), .v (.string key), .list 5 (ops.flatMap cO) ops.length] [⟨b0, 58, 2, [.list 1 (lo.flatMap cB) lo.length, .list 1 (hi.flatMap cB) hi.length]⟩] (fun r S => r = .tup [] ∧ S = [⟨b0, 58, 2, [.list 1 ((narF key (f + 1) ops (lo, hi)).1.flatMap cB) (narF key (f + 1) ops (lo, hi)).1.length, .list 1 ((narF key (f + 1) ops (lo, hi)).2.flatMap cB) (narF key (f + 1) ops (lo, hi)).2.length]⟩]) := by
 refine VC.body Tryz.func21 rfl Tryz.ntmps21 (Nat.le_of_ble_eq_true rfl) fun X0 w0 S00 => ?_
 have hp0 := runs_pos hr
 obtain ⟨hn1, hre⟩ := runs_end hr
 have hoK := opK_at hn1
 have hmx : maxLen = 9223372036854775807 := rfl
 have hpb := pops_bd ops[ops.length - 1].k
 refine sr_ ?_
 refine OD.box (ds := [_]) (wants_plain rfl) rfl rfl ot rfl rfl (fun b4 => ?_)
 refine OD.wk (Wk.as_ (n := 155) (l' := [(0, _), (2, _), (4, _)]) (S' := [⟨b4, 9, 1, [_]⟩, ⟨b0, 58, 2, [_, _]⟩]) rfl rfl ⟨lk, lk, lk, trivial⟩) ?_
 refine OD.nil ?_
 refine sr_ ?_
 refine os_ mv_ ?_
 refine os_ ln_ ?_
 refine OD.still (wants_plain rfl) rfl (still_bin rfl ot opd_const (bin_sub (r := ((ops.length - 1 : Nat) : Int)) (by rw [show ((ops.length : Nat) : Int) - 1 = ((ops.length - 1 : Nat) : Int) by omega]; exact wrap_i64 (by omega) (by omega)))) ?_
 refine os_ mv_ ?_
 refine OD.wk (Wk.as_ (n := 155) (l' := [(0, _), (2, _), (4, _), (6, _)]) (S' := [⟨b4, 9, 1, [_]⟩, ⟨b0, 58, 2, [_, _]⟩]) rfl rfl ⟨lk, lk, lk, lk, trivial⟩) ?_
 refine OD.nil ?_
 refine CD.seq ?_
 refine sr_ ?_
 refine os_ mv_ ?_
 refine os_ mv_ ?_
 refine os_ (ix_ 5 (h := by first | exact .l (j := (ops.length - 1)) rfl (by omega) | exact .r (j := (ops.length - 1)) rfl (by omega))) ?_
 refine os_ (fa_ 0) ?_
 refine os_ ld_ ?_
 refine os_ bn_ ?_
 refine nm_ [0, 2, 4, 6, 22] ?_
 refine CD.cond ot (fun hc0 => ?_) (fun hc0 => ?_)
 ·have hc0' := hc0
  (try simp only [V.cnd, ne_eq] at hc0')
  have hk3 : opK ops (ops.length - 1) = 3 := by rw [hoK]; omega
  obtain ⟨hm1, hm2, hm3, hm4⟩ := and_mid hr hk3
  have hres : (narF key (f + 1) ops (lo, hi)) = narF key f ((ops.take (ops.length - 1)).drop (begF ops (ops.length - 1) 1)) (narF key f (ops.take (begF ops (ops.length - 1) 1)) (lo, hi)) := by rw [narF, if_pos hk3]
  have hq1 := nar_len key f (ops.take (begF ops (ops.length - 1) 1)) (lo, hi) hlo hhi
  refine sr_ ?_
  refine os_ mv_ ?_
  refine os_ mv_ ?_
  refine OD.callP (wants_plain rfl) rfl rfl rfl Tryz.call36 (begins_vp ops (by omega) (ops.length - 1) (by omega) 2 hm4 (by decide)) ⟨ot, ot, trivial⟩ ?_
  refine os_ mv_ ?_
  refine OD.wk (Wk.as_ (n := 155) (l' := [(0, _), (2, _), (4, _), (6, _), (7, _)]) (S' := [⟨b4, 9, 1, [_]⟩, ⟨b0, 58, 2, [_, _]⟩]) rfl rfl ⟨lk, lk, lk, lk, lk, trivial⟩) ?_
  refine OD.nil ?_
  refine CD.seq ?_
  refine CD.draw (bks (List.eraseIdx _ 1)) (by kernel_rfl) (fun _ h => (List.Sublist.map _ (List.eraseIdx_sublist _ 1)).subset h) ?_
  refine AD0.take (i := 0) rfl (by kernel_rfl) (by kernel_rfl) (by kernel_rfl) (by repeat (first | exact NP.body | apply NP.then | apply NP.cut | apply NP.inBlock | apply NP.round)) (wants_plain rfl) rfl (still_mv rfl ot) (by exact trivial) ?_
  refine AD0.take (i := 1) rfl (by kernel_rfl) (by kernel_rfl) (by kernel_rfl) (by repeat (first | exact NP.body | apply NP.then | apply NP.cut | apply NP.inBlock | apply NP.round)) (wants_plain rfl) rfl (still_r1 (mk := Op.load 9) rfl ot (by first | exact ld_blk (k := 0) rfl rfl Tryz.isAgg9 rfl | exact ld_fm cO_len Tryz.isAgg9 (by first | assumption | omega) rfl | exact ld_fm0 cO_len Tryz.isAgg9 (by first | assumption | omega) rfl | exact ld_row (k := 0) cO_len rfl rfl rfl Tryz.isAgg9 (by first | assumption | omega) rfl | exact ld_row0 (k := 0) cO_len rfl rfl rfl Tryz.isAgg9 (by first | assumption | omega) rfl | exact ld_row (k := 1) cO_len rfl rfl rfl Tryz.isAgg9 (by first | assumption | omega) rfl | exact ld_row0 (k := 1) cO_len rfl rfl rfl Tryz.isAgg9 (by first | assumption | omega) rfl | exact ld_i Tryz.isAgg9 rfl)) (by first | exact trivial | exact safe_blk (k0 := 0) rfl rfl) ?_
  refine AD0.take (i := 2) rfl (by kernel_rfl) (by kernel_rfl) (by kernel_rfl) (by repeat (first | exact NP.body | apply NP.then | apply NP.cut | apply NP.inBlock | apply NP.round)) (wants_plain rfl) rfl (still_mv rfl ot) (by exact trivial) ?_
  refine AD0.take (i := 3) rfl (by kernel_rfl) (by kernel_rfl) (by kernel_rfl) (by repeat (first | exact NP.body | apply NP.then | apply NP.cut | apply NP.inBlock | apply NP.round)) (wants_plain rfl) rfl (still_mv rfl ot) (by exact trivial) ?_
  refine AD0.take (i := 4) rfl (by kernel_rfl) (by kernel_rfl) (by kernel_rfl) (by repeat (first | exact NP.body | apply NP.then | apply NP.cut | apply NP.inBlock | apply NP.round)) (wants_plain rfl) rfl (still_rs (l := 0) rfl ot trivial ⟨_, ot⟩ (by first | exact sl_head cO_len (fun h => by cases h) Tryz.runUnderlying36 Tryz.sizeOf35 (by omega) | exact sl_row (fun h => by cases h) Tryz.runUnderlying36 Tryz.sizeOf35 (by omega) | exact sl_list (fun _ => rfl) (fun h => by cases h) Tryz.runUnderlying36 Tryz.sizeOf35 (by omega) (by omega))) (by exact trivial) ?_
  refine AD0.later rfl ?_
  refine AD.one (i := 5) (by kernel_rfl) ?_
  refine AStep.call rfl (wants_plain rfl) rfl rfl rfl Tryz.call21 (IH (ops.take (begF ops (ops.length - 1) 1)) (lo) (hi) (by simp only [List.length_drop, List.length_take]; omega) hm2 (fun o ho => hok o (List.mem_of_mem_take ho)) (by omega) (by omega) b0) ⟨ot, ot, ot, trivial⟩ (perm_one (k := 1) rfl) (by intro b hb; simp [bks, St.put] at hb ⊢; try first | exact hb | simp [hb] | (rcases hb with hb | hb <;> simp [hb]) | (rcases hb with hb | hb | hb <;> simp [hb])) ?_
  rintro _ _ ⟨rfl, rfl⟩
  refine AD.wk (y := ⟨155, [(0, _), (2, _), (4, _), (6, _), (7, _)], [⟨b0, 58, 2, [_, _]⟩, ⟨b4, 9, 1, [_]⟩]⟩) (Wk.as_ rfl rfl ⟨lk, lk, lk, lk, lk, trivial⟩) rfl ?_
  refine AD.done (by kernel_rfl) ?_
  refine CD.seq ?_
  refine CD.draw (bks (List.eraseIdx _ 0)) (by kernel_rfl) (fun _ h => (List.Sublist.map _ (List.eraseIdx_sublist _ 0)).subset h) ?_
  refine AD0.take (i := 0) rfl (by kernel_rfl) (by kernel_rfl) (by kernel_rfl) (by repeat (first | exact NP.body | apply NP.then | apply NP.cut | apply NP.inBlock | apply NP.round)) (wants_plain rfl) rfl (still_mv rfl ot) (by exact trivial) ?_
  refine AD0.take (i := 1) rfl (by kernel_rfl) (by kernel_rfl) (by kernel_rfl) (by repeat (first | exact NP.body | apply NP.then | apply NP.cut | apply NP.inBlock | apply NP.round)) (wants_plain rfl) rfl (still_r1 (mk := Op.load 9) rfl ot (by first | exact ld_blk (k := 1) rfl rfl Tryz.isAgg9 rfl | exact ld_fm cO_len Tryz.isAgg9 (by first | assumption | omega) rfl | exact ld_fm0 cO_len Tryz.isAgg9 (by first | assumption | omega) rfl | exact ld_row (k := 0) cO_len rfl rfl rfl Tryz.isAgg9 (by first | assumption | omega) rfl | exact ld_row0 (k := 0) cO_len rfl rfl rfl Tryz.isAgg9 (by first | assumption | omega) rfl | exact ld_row (k := 1) cO_len rfl rfl rfl Tryz.isAgg9 (by first | assumption | omega) rfl | exact ld_row0 (k := 1) cO_len rfl rfl rfl Tryz.isAgg9 (by first | assumption | omega) rfl | exact ld_i Tryz.isAgg9 rfl)) (by first | exact trivial | exact safe_blk (k0 := 0) rfl rfl) ?_
  refine AD0.take (i := 2) rfl (by kernel_rfl) (by kernel_rfl) (by kernel_rfl) (by repeat (first | exact NP.body | apply NP.then | apply NP.cut | apply NP.inBlock | apply NP.round)) (wants_plain rfl) rfl (still_mv rfl ot) (by exact trivial) ?_
  refine AD0.take (i := 3) rfl (by kernel_rfl) (by kernel_rfl) (by kernel_rfl) (by repeat (first | exact NP.body | apply NP.then | apply NP.cut | apply NP.inBlock | apply NP.round)) (wants_plain rfl) rfl (still_mv rfl ot) (by exact trivial) ?_
  refine AD0.take (i := 4) rfl (by kernel_rfl) (by kernel_rfl) (by kernel_rfl) (by repeat (first | exact NP.body | apply NP.then | apply NP.cut | apply NP.inBlock | apply NP.round)) (wants_plain rfl) rfl (still_mv rfl ot) (by exact trivial) ?_
  refine AD0.take (i := 5) rfl (by kernel_rfl) (by kernel_rfl) (by kernel_rfl) (by repeat (first | exact NP.body | apply NP.then | apply NP.cut | apply NP.inBlock | apply NP.round)) (wants_plain rfl) rfl (still_rs (l := (begF ops (ops.length - 1) 1)) (h := (ops.length - 1)) rfl ot ⟨_, ot⟩ ⟨_, ot⟩ (sl_mid cO_len (fun h => by cases h) (fun h => by cases h) Tryz.runUnderlying36 Tryz.sizeOf35 (by omega) (by omega))) (by exact trivial) ?_
  refine AD0.later rfl ?_
  refine AD.one (i := 6) (by kernel_rfl) ?_
  refine AStep.call rfl (wants_plain rfl) rfl rfl rfl Tryz.call21 (IH ((ops.take (ops.length - 1)).drop (begF ops (ops.length - 1) 1)) ((narF key f (ops.take (begF ops (ops.length - 1) 1)) (lo, hi)).1) ((narF key f (ops.take (begF ops (ops.length - 1) 1)) (lo, hi)).2) (by simp only [List.length_drop, List.length_take]; omega) hm3 (fun o ho => hok o (List.mem_of_mem_take (List.mem_of_mem_drop ho))) (by omega) (by omega) b0) ⟨ot, ot, ot, trivial⟩ (perm_one (k := 0) rfl) (by intro b hb; simp [bks, St.put] at hb ⊢; try first | exact hb | simp [hb] | (rcases hb with hb | hb <;> simp [hb]) | (rcases hb with hb | hb | hb <;> simp [hb])) ?_
  rintro _ _ ⟨rfl, rfl⟩
  refine AD.wk (y := ⟨155, [], [⟨b0, 58, 2, [_, _]⟩, ⟨b4, 9, 1, [_]⟩]⟩) (Wk.as_ rfl rfl trivial) rfl ?_
  refine AD.done (by kernel_rfl) ?_
  refine CD.ret ?_
  refine ⟨.inr rfl, _, [⟨b0, _, _, _⟩], (by repeat (first | exact List.Sublist.refl _ | (apply List.Sublist.cons_cons; exact List.nil_sublist _) | apply List.Sublist.cons)), ret_none Tryz.results21 , ?_⟩
  refine ⟨rfl, ?_⟩
  first | rw [hfh] | rw [hres]
 ·have hc0' := hc0
  (try simp only [V.cnd, ne_eq] at hc0')
  have hk3 : ¬ opK ops (ops.length - 1) = 3 := by rw [hoK]; omega
  refine CD.skip ?_
  refine sr_ ?_
  refine os_ mv_ ?_
  refine os_ mv_ ?_
  refine os_ (ix_ 5) ?_
  refine os_ (fa_ 0) ?_
  refine os_ ld_ ?_
  refine os_ bn_ ?_
  refine os_ mv_ ?_
  refine nm_ [0, 2, 4, 6, 8] ?_
  refine CD.cut (fun y__ => ∃ (ops2 : List OpL), ∃ (nt : Bool), ((narF key (f + 1) ops (lo, hi)) = leafB key ops2 nt (lo, hi)) ∧ (1 ≤ ops2.length) ∧ (ops2.length ≤ 40) ∧ (∀ o ∈ ops2, o.v.Ok) ∧ (ops2.length - 1 < ops2.length) ∧ y__ = (⟨155, [(0, .v (.pointer (some ⟨b0, 0, none⟩))), (2, .list 5 (ops2.flatMap cO) ops2.length), (4, .v (.pointer (some ⟨b4, 0, none⟩))), (6, .v (.int .i64 ((ops2.length - 1) : Nat))), (8, .v (.bool nt))], [⟨b4, 9, 1, [.v (.string key)]⟩, ⟨b0, 58, 2, [.list 1 (lo.flatMap cB) lo.length, .list 1 (hi.flatMap cB) hi.length]⟩]⟩ : St)) ?_ ?_
  ·skip
   refine sr_ ?_
   refine os_ mv_ ?_
   refine nm_ [0, 2, 4, 6, 8, 45] ?_
   refine CD.cond ot (fun hc1 => ?_) (fun hc1 => ?_)
   ·have hc1' := hc1
    (try simp only [V.cnd, ne_eq] at hc1')
    have hk5 : opK ops (ops.length - 1) = 5 := by rw [hoK]; simpa using hc1
    have hl2 : 2 ≤ ops.length := by rw [← hoK, hk5] at hre; have := runs_pos hre; rw [List.length_take] at this; omega
    have hrn : (narF key (f + 1) ops (lo, hi)) = leafB key (ops.take (ops.length - 1)) true (lo, hi) := by rw [narF, if_neg hk3, if_pos hk5]
    have htl : (ops.take (ops.length - 1)).length = (ops.length - 1) := by rw [List.length_take]; omega
    refine sr_ ?_
    refine os_ mv_ ?_
    refine os_ mv_ ?_
    refine OD.still (wants_plain rfl) rfl (still_rs (l := 0) rfl ot trivial ⟨_, ot⟩ (by first | exact sl_head cO_len (fun h => by cases h) Tryz.runUnderlying36 Tryz.sizeOf35 (by omega) | exact sl_row (fun h => by cases h) Tryz.runUnderlying36 Tryz.sizeOf35 (by omega) | exact sl_list (fun _ => rfl) (fun h => by cases h) Tryz.runUnderlying36 Tryz.sizeOf35 (by omega) (by omega))) ?_
    refine os_ mv_ ?_
    refine OD.wk (Wk.as_ (n := 155) (l' := [(0, _), (2, _), (4, _), (6, _), (8, _)]) (S' := [⟨b4, 9, 1, [_]⟩, ⟨b0, 58, 2, [_, _]⟩]) rfl rfl ⟨lk, lk, lk, lk, lk, trivial⟩) ?_
    refine OD.nil ?_
    refine CD.region ?_
    refine os_ mv_ ?_
    refine OD.still (wants_plain rfl) rfl (still_bin rfl ot opd_const (bin_sub (r := ((ops.length - 1 - 1 : Nat) : Int)) (by rw [show ((ops.length - 1 : Nat) : Int) - 1 = ((ops.length - 1 - 1 : Nat) : Int) by omega]; exact wrap_i64 (by omega) (by omega)))) ?_
    refine os_ mv_ ?_
    refine OD.wk (Wk.as_ (n := 155) (l' := [(0, _), (2, _), (4, _), (6, _), (8, _)]) (S' := [⟨b4, 9, 1, [_]⟩, ⟨b0, 58, 2, [_, _]⟩]) rfl rfl ⟨lk, lk, lk, lk, lk, trivial⟩) ?_
    refine OD.nil ?_
    refine ⟨(⟨155, [(0, .v (.pointer (some ⟨b0, 0, none⟩))), (2, .list 5 (((ops.take (ops.length - 1))).flatMap cO) ((ops.take (ops.length - 1))).length), (4, .v (.pointer (some ⟨b4, 0, none⟩))), (6, .v (.int .i64 ((((ops.take (ops.length - 1))).length - 1) : Nat))), (8, .v (.bool (true)))], [⟨b4, 9, 1, [.v (.string key)]⟩, ⟨b0, 58, 2, [.list 1 (lo.flatMap cB) lo.length, .list 1 (hi.flatMap cB) hi.length]⟩]⟩ : St), Wk.asS (n := 155) rfl (by repeat (first | exact List.Sublist.refl _ | apply List.Sublist.cons)) ⟨(by (repeat (first | exact look_hit | (apply look_at; focus (first | rfl | (rw [htl]; done) | (rw [hc1]; done))) | (apply look_miss; focus rfl))); done), (by (repeat (first | exact look_hit | (apply look_at; focus (first | rfl | (rw [htl]; done) | (rw [hc1]; done))) | (apply look_miss; focus rfl))); done), (by (repeat (first | exact look_hit | (apply look_at; focus (first | rfl | (rw [htl]; done) | (rw [hc1]; done))) | (apply look_miss; focus rfl))); done), (by (repeat (first | exact look_hit | (apply look_at; focus (first | rfl | (rw [htl]; done) | (rw [hc1]; done))) | (apply look_miss; focus rfl))); done), (by (repeat (first | exact look_hit | (apply look_at; focus (first | rfl | (rw [htl]; done) | (rw [hc1]; done))) | (apply look_miss; focus rfl))); done), trivial⟩, (ops.take (ops.length - 1)), true, hrn, (by omega), (by omega), (fun o ho => hok o (List.mem_of_mem_take ho)), (by omega), rfl⟩
   ·have hc1' := hc1
    (try simp only [V.cnd, ne_eq] at hc1')
    have hk5 : ¬ opK ops (ops.length - 1) = 5 := by rw [hoK]; simpa using hc1
    have hrn : (narF key (f + 1) ops (lo, hi)) = leafB key ops false (lo, hi) := by rw [narF, if_neg hk3, if_neg hk5]
    refine CD.skip ?_
    refine ⟨(⟨155, [(0, .v (.pointer (some ⟨b0, 0, none⟩))), (2, .list 5 ((ops).flatMap cO) (ops).length), (4, .v (.pointer (some ⟨b4, 0, none⟩))), (6, .v (.int .i64 (((ops).length - 1) : Nat))), (8, .v (.bool (false)))], [⟨b4, 9, 1, [.v (.string key)]⟩, ⟨b0, 58, 2, [.list 1 (lo.flatMap cB) lo.length, .list 1 (hi.flatMap cB) hi.length]⟩]⟩ : St), Wk.asS (n := 155) rfl (by repeat (first | exact List.Sublist.refl _ | apply List.Sublist.cons)) ⟨(by (repeat (first | exact look_hit | (apply look_at; focus (first | rfl | (rw [htl]; done) | (rw [hc1]; done))) | (apply look_miss; focus rfl))); done), (by (repeat (first | exact look_hit | (apply look_at; focus (first | rfl | (rw [htl]; done) | (rw [hc1]; done))) | (apply look_miss; focus rfl))); done), (by (repeat (first | exact look_hit | (apply look_at; focus (first | rfl | (rw [htl]; done) | (rw [hc1]; done))) | (apply look_miss; focus rfl))); done), (by (repeat (first | exact look_hit | (apply look_at; focus (first | rfl | (rw [htl]; done) | (rw [hc1]; done))) | (apply look_miss; focus rfl))); done), (by (repeat (first | exact look_hit | (apply look_at; focus (first | rfl | (rw [htl]; done) | (rw [hc1]; done))) | (apply look_miss; focus rfl))); done), trivial⟩, ops, false, hrn, hp0, h40, hok, hn1, rfl⟩
  rintro _ ⟨ops2, nt, hres, hp2, h402, hok2, hlt2, rfl⟩
  refine CD.cut (fun y__ => (¬ (ops2.length ≠ 3 ∨ (nt = true ∧ ops2[ops2.length - 1].k ≠ 7) ∨ (ops2[ops2.length - 1].k ≠ 6 ∧ ops2[ops2.length - 1].k ≠ 7))) ∧ y__ = (⟨155, [(0, .v (.pointer (some ⟨b0, 0, none⟩))), (2, .list 5 (ops2.flatMap cO) ops2.length), (4, .v (.pointer (some ⟨b4, 0, none⟩))), (6, .v (.int .i64 ((ops2.length - 1) : Nat))), (8, .v (.bool nt))], [⟨b4, 9, 1, [.v (.string key)]⟩, ⟨b0, 58, 2, [.list 1 (lo.flatMap cB) lo.length, .list 1 (hi.flatMap cB) hi.length]⟩]⟩ : St)) ?_ ?_
  ·skip
   refine sr_ ?_
   refine os_ mv_ ?_
   refine os_ bn_ ?_
   refine os_ mv_ ?_
   refine OD.split (t := 53) lk (fun hg53 => ?_) (fun hg53 => ?_)
   ·have hg53' := hg53; (try simp only [V.cnd, ne_eq] at hg53')
    refine sk_ ?_
    refine sk_ ?_
    refine sj_ ?_
    refine sj_ ?_
    refine sj_ ?_
    refine sj_ ?_
    refine sj_ ?_
    refine sj_ ?_
    refine sk_ ?_
    refine os_ pkT_ ?_
    refine os_ mv_ ?_
    refine sk_ ?_
    refine sk_ ?_
    refine sk_ ?_
    refine sk_ ?_
    refine sk_ ?_
    refine sk_ ?_
    refine sk_ ?_
    refine sj_ ?_
    refine sj_ ?_
    refine sj_ ?_
    refine sj_ ?_
    refine sj_ ?_
    refine sj_ ?_
    refine sk_ ?_
    refine os_ pkT_ ?_
    refine nm_ [0, 2, 4, 6, 8, 79] ?_
    refine CD.condT ot (by first | rfl | assumption) ?_
    have hcnd : (ops2.length ≠ 3 ∨ (nt = true ∧ ops2[ops2.length - 1].k ≠ 7) ∨ (ops2[ops2.length - 1].k ≠ 6 ∧ ops2[ops2.length - 1].k ≠ 7)) := by first | omega | (simp_all; omega) | simp_all
    have hret : leafB key ops2 nt (lo, hi) = (lo, hi) := by unfold leafB; rw [opK_at hlt2, if_pos hcnd]
    rw [hret] at hres
    refine CD.ret ?_
    refine ⟨.inr rfl, _, [⟨b0, _, _, _⟩], (by repeat (first | exact List.Sublist.refl _ | (apply List.Sublist.cons_cons; exact List.nil_sublist _) | apply List.Sublist.cons)), ret_none Tryz.results21 , ?_⟩
    refine ⟨rfl, ?_⟩
    first | rw [hfh] | rw [hres]
   ·have hg53' := hg53; (try simp only [V.cnd, ne_eq] at hg53')
    refine os_ mv_ ?_
    refine os_ mv_ ?_
    refine OD.split (t := 55) lk (fun hg55 => ?_) (fun hg55 => ?_)
    ·have hg55' := hg55; (try simp only [V.cnd, ne_eq] at hg55')
     refine os_ mv_ ?_
     refine os_ mv_ ?_
     refine os_ (ix_ 5 (h := by first | exact .l (j := (ops2.length - 1)) rfl hlt2 | exact .r (j := (ops2.length - 1)) rfl hlt2)) ?_
     refine os_ (fa_ 0) ?_
     refine os_ ld_ ?_
     refine os_ bn_ ?_
     refine os_ pkT_ ?_
     refine os_ pkF_ ?_
     refine os_ mv_ ?_
     refine OD.split (t := 64) lk (fun hg64 => ?_) (fun hg64 => ?_)
     ·have hg64' := hg64; (try simp only [V.cnd, ne_eq] at hg64')
      refine sk_ ?_
      refine sk_ ?_
      refine sk_ ?_
      refine sk_ ?_
      refine sk_ ?_
      refine sk_ ?_
      refine sk_ ?_
      refine sj_ ?_
      refine sj_ ?_
      refine sj_ ?_
      refine sj_ ?_
      refine sj_ ?_
      refine sj_ ?_
      refine sk_ ?_
      refine os_ pkT_ ?_
      refine nm_ [0, 2, 4, 6, 8, 79] ?_
      refine CD.condT ot (by first | rfl | assumption) ?_
      have hcnd : (ops2.length ≠ 3 ∨ (nt = true ∧ ops2[ops2.length - 1].k ≠ 7) ∨ (ops2[ops2.length - 1].k ≠ 6 ∧ ops2[ops2.length - 1].k ≠ 7)) := by first | omega | (simp_all; omega) | simp_all
      have hret : leafB key ops2 nt (lo, hi) = (lo, hi) := by unfold leafB; rw [opK_at hlt2, if_pos hcnd]
      rw [hret] at hres
      refine CD.ret ?_
      refine ⟨.inr rfl, _, [⟨b0, _, _, _⟩], (by repeat (first | exact List.Sublist.refl _ | (apply List.Sublist.cons_cons; exact List.nil_sublist _) | apply List.Sublist.cons)), ret_none Tryz.results21 , ?_⟩
      refine ⟨rfl, ?_⟩
      first | rw [hfh] | rw [hres]
     ·have hg64' := hg64; (try simp only [V.cnd, ne_eq] at hg64')
      refine os_ mv_ ?_
      refine os_ mv_ ?_
      refine os_ (ix_ 5 (h := by first | exact .l (j := (ops2.length - 1)) rfl hlt2 | exact .r (j := (ops2.length - 1)) rfl hlt2)) ?_
      refine os_ (fa_ 0) ?_
      refine os_ ld_ ?_
      refine os_ bn_ ?_
      refine os_ mv_ ?_
      refine OD.split (t := 71) lk (fun hg71 => ?_) (fun hg71 => ?_)
      ·have hg71' := hg71; (try simp only [V.cnd, ne_eq] at hg71')
       refine os_ mv_ ?_
       refine os_ mv_ ?_
       refine os_ (ix_ 5 (h := by first | exact .l (j := (ops2.length - 1)) rfl hlt2 | exact .r (j := (ops2.length - 1)) rfl hlt2)) ?_
       refine os_ (fa_ 0) ?_
       refine os_ ld_ ?_
       refine os_ bn_ ?_
       refine os_ pkT_ ?_
       refine os_ pkF_ ?_
       refine nm_ [0, 2, 4, 6, 8, 79] ?_
       refine CD.cond ot (fun hc2 => ?_) (fun hc2 => ?_)
       ·have hc2' := hc2
        (try simp only [V.cnd, ne_eq] at hc2')
        have hcnd : (ops2.length ≠ 3 ∨ (nt = true ∧ ops2[ops2.length - 1].k ≠ 7) ∨ (ops2[ops2.length - 1].k ≠ 6 ∧ ops2[ops2.length - 1].k ≠ 7)) := by first | omega | (simp_all; omega) | simp_all
        have hret : leafB key ops2 nt (lo, hi) = (lo, hi) := by unfold leafB; rw [opK_at hlt2, if_pos hcnd]
        rw [hret] at hres
        refine CD.ret ?_
        refine ⟨.inr rfl, _, [⟨b0, _, _, _⟩], (by repeat (first | exact List.Sublist.refl _ | (apply List.Sublist.cons_cons; exact List.nil_sublist _) | apply List.Sublist.cons)), ret_none Tryz.results21 , ?_⟩
        refine ⟨rfl, ?_⟩
        first | rw [hfh] | rw [hres]
       ·have hc2' := hc2
        (try simp only [V.cnd, ne_eq] at hc2')
        have hcnd : ¬ (ops2.length ≠ 3 ∨ (nt = true ∧ ops2[ops2.length - 1].k ≠ 7) ∨ (ops2[ops2.length - 1].k ≠ 6 ∧ ops2[ops2.length - 1].k ≠ 7)) := by first | omega | (simp_all; omega) | simp_all
        refine CD.skip ?_
        refine ⟨(⟨155, [(0, .v (.pointer (some ⟨b0, 0, none⟩))), (2, .list 5 (ops2.flatMap cO) ops2.length), (4, .v (.pointer (some ⟨b4, 0, none⟩))), (6, .v (.int .i64 ((ops2.length - 1) : Nat))), (8, .v (.bool nt))], [⟨b4, 9, 1, [.v (.string key)]⟩, ⟨b0, 58, 2, [.list 1 (lo.flatMap cB) lo.length, .list 1 (hi.flatMap cB) hi.length]⟩]⟩ : St), Wk.asS (n := 155) rfl (by repeat (first | exact List.Sublist.refl _ | apply List.Sublist.cons)) ⟨(by (repeat (first | exact look_hit | (apply look_at; focus (first | rfl | (simp; done) | (congr 2; omega))) | (apply look_miss; focus rfl))); done), (by (repeat (first | exact look_hit | (apply look_at; focus (first | rfl | (simp; done) | (congr 2; omega))) | (apply look_miss; focus rfl))); done), (by (repeat (first | exact look_hit | (apply look_at; focus (first | rfl | (simp; done) | (congr 2; omega))) | (apply look_miss; focus rfl))); done), (by (repeat (first | exact look_hit | (apply look_at; focus (first | rfl | (simp; done) | (congr 2; omega))) | (apply look_miss; focus rfl))); done), (by (repeat (first | exact look_hit | (apply look_at; focus (first | rfl | (simp; done) | (congr 2; omega))) | (apply look_miss; focus rfl))); done), trivial⟩, hcnd, rfl⟩
      ·have hg71' := hg71; (try simp only [V.cnd, ne_eq] at hg71')
       refine sk_ ?_
       refine sk_ ?_
       refine sk_ ?_
       refine sk_ ?_
       refine sk_ ?_
       refine sk_ ?_
       refine os_ pkF_ ?_
       refine os_ pkF_ ?_
       refine nm_ [0, 2, 4, 6, 8, 79] ?_
       refine CD.condF ot (by first | rfl | assumption) ?_
       have hcnd : ¬ (ops2.length ≠ 3 ∨ (nt = true ∧ ops2[ops2.length - 1].k ≠ 7) ∨ (ops2[ops2.length - 1].k ≠ 6 ∧ ops2[ops2.length - 1].k ≠ 7)) := by first | omega | (simp_all; omega) | simp_all
       refine CD.skip ?_
       refine ⟨(⟨155, [(0, .v (.pointer (some ⟨b0, 0, none⟩))), (2, .list 5 (ops2.flatMap cO) ops2.length), (4, .v (.pointer (some ⟨b4, 0, none⟩))), (6, .v (.int .i64 ((ops2.length - 1) : Nat))), (8, .v (.bool nt))], [⟨b4, 9, 1, [.v (.string key)]⟩, ⟨b0, 58, 2, [.list 1 (lo.flatMap cB) lo.length, .list 1 (hi.flatMap cB) hi.length]⟩]⟩ : St), Wk.asS (n := 155) rfl (by repeat (first | exact List.Sublist.refl _ | apply List.Sublist.cons)) ⟨(by (repeat (first | exact look_hit | (apply look_at; focus (first | rfl | (simp; done) | (congr 2; omega))) | (apply look_miss; focus rfl))); done), (by (repeat (first | exact look_hit | (apply look_at; focus (first | rfl | (simp; done) | (congr 2; omega))) | (apply look_miss; focus rfl))); done), (by (repeat (first | exact look_hit | (apply look_at; focus (first | rfl | (simp; done) | (congr 2; omega))) | (apply look_miss; focus rfl))); done), (by (repeat (first | exact look_hit | (apply look_at; focus (first | rfl | (simp; done) | (congr 2; omega))) | (apply look_miss; focus rfl))); done), (by (repeat (first | exact look_hit | (apply look_at; focus (first | rfl | (simp; done) | (congr 2; omega))) | (apply look_miss; focus rfl))); done), trivial⟩, hcnd, rfl⟩
    ·have hg55' := hg55; (try simp only [V.cnd, ne_eq] at hg55')
     refine sk_ ?_
     refine sk_ ?_
     refine sk_ ?_
     refine sk_ ?_
     refine sk_ ?_
     refine sk_ ?_
     refine os_ pkF_ ?_
     refine os_ pkF_ ?_
     refine os_ mv_ ?_
     refine os_ mv_ ?_
     refine os_ mv_ ?_
     refine os_ (ix_ 5 (h := by first | exact .l (j := (ops2.length - 1)) rfl hlt2 | exact .r (j := (ops2.length - 1)) rfl hlt2)) ?_
     refine os_ (fa_ 0) ?_
     refine os_ ld_ ?_
     refine os_ bn_ ?_
     refine os_ mv_ ?_
     refine OD.split (t := 71) lk (fun hg71 => ?_) (fun hg71 => ?_)
     ·have hg71' := hg71; (try simp only [V.cnd, ne_eq] at hg71')
      refine os_ mv_ ?_
      refine os_ mv_ ?_
      refine os_ (ix_ 5 (h := by first | exact .l (j := (ops2.length - 1)) rfl hlt2 | exact .r (j := (ops2.length - 1)) rfl hlt2)) ?_
      refine os_ (fa_ 0) ?_
      refine os_ ld_ ?_
      refine os_ bn_ ?_
      refine os_ pkT_ ?_
      refine os_ pkF_ ?_
      refine nm_ [0, 2, 4, 6, 8, 79] ?_
      refine CD.cond ot (fun hc2 => ?_) (fun hc2 => ?_)
      ·have hc2' := hc2
       (try simp only [V.cnd, ne_eq] at hc2')
       have hcnd : (ops2.length ≠ 3 ∨ (nt = true ∧ ops2[ops2.length - 1].k ≠ 7) ∨ (ops2[ops2.length - 1].k ≠ 6 ∧ ops2[ops2.length - 1].k ≠ 7)) := by first | omega | (simp_all; omega) | simp_all
       have hret : leafB key ops2 nt (lo, hi) = (lo, hi) := by unfold leafB; rw [opK_at hlt2, if_pos hcnd]
       rw [hret] at hres
       refine CD.ret ?_
       refine ⟨.inr rfl, _, [⟨b0, _, _, _⟩], (by repeat (first | exact List.Sublist.refl _ | (apply List.Sublist.cons_cons; exact List.nil_sublist _) | apply List.Sublist.cons)), ret_none Tryz.results21 , ?_⟩
       refine ⟨rfl, ?_⟩
       first | rw [hfh] | rw [hres]
      ·have hc2' := hc2
       (try simp only [V.cnd, ne_eq] at hc2')
       have hcnd : ¬ (ops2.length ≠ 3 ∨ (nt = true ∧ ops2[ops2.length - 1].k ≠ 7) ∨ (ops2[ops2.length - 1].k ≠ 6 ∧ ops2[ops2.length - 1].k ≠ 7)) := by first | omega | (simp_all; omega) | simp_all
       refine CD.skip ?_
       refine ⟨(⟨155, [(0, .v (.pointer (some ⟨b0, 0, none⟩))), (2, .list 5 (ops2.flatMap cO) ops2.length), (4, .v (.pointer (some ⟨b4, 0, none⟩))), (6, .v (.int .i64 ((ops2.length - 1) : Nat))), (8, .v (.bool nt))], [⟨b4, 9, 1, [.v (.string key)]⟩, ⟨b0, 58, 2, [.list 1 (lo.flatMap cB) lo.length, .list 1 (hi.flatMap cB) hi.length]⟩]⟩ : St), Wk.asS (n := 155) rfl (by repeat (first | exact List.Sublist.refl _ | apply List.Sublist.cons)) ⟨(by (repeat (first | exact look_hit | (apply look_at; focus (first | rfl | (simp; done) | (congr 2; omega))) | (apply look_miss; focus rfl))); done), (by (repeat (first | exact look_hit | (apply look_at; focus (first | rfl | (simp; done) | (congr 2; omega))) | (apply look_miss; focus rfl))); done), (by (repeat (first | exact look_hit | (apply look_at; focus (first | rfl | (simp; done) | (congr 2; omega))) | (apply look_miss; focus rfl))); done), (by (repeat (first | exact look_hit | (apply look_at; focus (first | rfl | (simp; done) | (congr 2; omega))) | (apply look_miss; focus rfl))); done), (by (repeat (first | exact look_hit | (apply look_at; focus (first | rfl | (simp; done) | (congr 2; omega))) | (apply look_miss; focus rfl))); done), trivial⟩, hcnd, rfl⟩
     ·have hg71' := hg71; (try simp only [V.cnd, ne_eq] at hg71')
      refine sk_ ?_
      refine sk_ ?_
      refine sk_ ?_
      refine sk_ ?_
      refine sk_ ?_
      refine sk_ ?_
      refine os_ pkF_ ?_
      refine os_ pkF_ ?_
      refine nm_ [0, 2, 4, 6, 8, 79] ?_
      refine CD.condF ot (by first | rfl | assumption) ?_
      have hcnd : ¬ (ops2.length ≠ 3 ∨ (nt = true ∧ ops2[ops2.length - 1].k ≠ 7) ∨ (ops2[ops2.length - 1].k ≠ 6 ∧ ops2[ops2.length - 1].k ≠ 7)) := by first | omega | (simp_all; omega) | simp_all
      refine CD.skip ?_
      refine ⟨(⟨155, [(0, .v (.pointer (some ⟨b0, 0, none⟩))), (2, .list 5 (ops2.flatMap cO) ops2.length), (4, .v (.pointer (some ⟨b4, 0, none⟩))), (6, .v (.int .i64 ((ops2.length - 1) : Nat))), (8, .v (.bool nt))], [⟨b4, 9, 1, [.v (.string key)]⟩, ⟨b0, 58, 2, [.list 1 (lo.flatMap cB) lo.length, .list 1 (hi.flatMap cB) hi.length]⟩]⟩ : St), Wk.asS (n := 155) rfl (by repeat (first | exact List.Sublist.refl _ | apply List.Sublist.cons)) ⟨(by (repeat (first | exact look_hit | (apply look_at; focus (first | rfl | (simp; done) | (congr 2; omega))) | (apply look_miss; focus rfl))); done), (by (repeat (first | exact look_hit | (apply look_at; focus (first | rfl | (simp; done) | (congr 2; omega))) | (apply look_miss; focus rfl))); done), (by (repeat (first | exact look_hit | (apply look_at; focus (first | rfl | (simp; done) | (congr 2; omega))) | (apply look_miss; focus rfl))); done), (by (repeat (first | exact look_hit | (apply look_at; focus (first | rfl | (simp; done) | (congr 2; omega))) | (apply look_miss; focus rfl))); done), (by (repeat (first | exact look_hit | (apply look_at; focus (first | rfl | (simp; done) | (congr 2; omega))) | (apply look_miss; focus rfl))); done), trivial⟩, hcnd, rfl⟩
  rintro _ ⟨hcnd, rfl⟩
  refine sr_ ?_
  refine os_ mv_ ?_
  refine OD.still (wants_plain rfl) rfl (still_rs (l := 0) (h := 2) rfl ot trivial ⟨_, opd_const⟩ (by first | exact sl_head cO_len (fun h => by cases h) Tryz.runUnderlying36 Tryz.sizeOf35 (by omega) | exact sl_row (fun h => by cases h) Tryz.runUnderlying36 Tryz.sizeOf35 (by omega) | exact sl_list (fun _ => rfl) (fun h => by cases h) Tryz.runUnderlying36 Tryz.sizeOf35 (by omega) (by omega))) ?_
  refine OD.still (wants_plain rfl) rfl (still_fn (ds := [_]) rfl ⟨ot, trivial⟩) ?_
  refine OD.call (wants_plain rfl) rfl rfl rfl Tryz.call37 (indexO_vc (ops2.take 2) 38 [.v (.pointer (some ⟨b4, 0, none⟩))] _ (keyCol key) Tryz.call38 (fun h _ => narcl1_vc h key b4) (by rw [List.length_take]; omega)) ⟨ot, ot, trivial⟩ (perm_one (k := 0) rfl) ?_; rintro _ SS2 ⟨rfl, hSS2⟩; rw [hSS2]; clear hSS2
  refine os_ mv_ ?_
  refine OD.wk (Wk.as_ (n := 155) (l' := [(0, _), (2, _), (6, _), (8, _), (9, _)]) (S' := [⟨b4, 9, 1, [_]⟩, ⟨b0, 58, 2, [_, _]⟩]) rfl rfl ⟨lk, lk, lk, lk, lk, trivial⟩) ?_
  refine OD.nil ?_
  refine sr_ ?_
  refine os_ mv_ ?_
  refine OD.still (wants_plain rfl) rfl (still_rs (l := 0) (h := 2) rfl ot trivial ⟨_, opd_const⟩ (by first | exact sl_head cO_len (fun h => by cases h) Tryz.runUnderlying36 Tryz.sizeOf35 (by omega) | exact sl_row (fun h => by cases h) Tryz.runUnderlying36 Tryz.sizeOf35 (by omega) | exact sl_list (fun _ => rfl) (fun h => by cases h) Tryz.runUnderlying36 Tryz.sizeOf35 (by omega) (by omega))) ?_
  refine OD.call (wants_plain rfl) rfl rfl rfl Tryz.call37 (indexO_vc (ops2.take 2) 39 [] [] litNN Tryz.call39 (fun h _ => narcl2_vp h) (by rw [List.length_take]; omega)) ⟨ot, opd_func, trivial⟩ (perm_none _) ?_; rintro _ SS2 ⟨rfl, hSS2⟩; rw [hSS2]; clear hSS2
  refine os_ mv_ ?_
  refine OD.wk (Wk.as_ (n := 155) (l' := [(0, _), (2, _), (6, _), (8, _), (9, _), (10, _)]) (S' := [⟨b4, 9, 1, [_]⟩, ⟨b0, 58, 2, [_, _]⟩]) rfl rfl ⟨lk, lk, lk, lk, lk, lk, trivial⟩) ?_
  refine OD.nil ?_
  refine CD.seq ?_
  refine sr_ ?_
  refine os_ mv_ ?_
  refine os_ bn_ ?_
  refine os_ mv_ ?_
  refine OD.split (t := 89) lk (fun hg89 => ?_) (fun hg89 => ?_)
  ·have hg89' := hg89; (try simp only [V.cnd, ne_eq] at hg89')
   refine sk_ ?_
   refine sk_ ?_
   refine os_ pkT_ ?_
   refine nm_ [0, 2, 6, 8, 9, 10, 92] ?_
   refine CD.condT ot (by first | rfl | assumption) ?_
   have hc2 : (idxG (keyCol key) (ops2.take 2)) < 0 ∨ (idxG litNN (ops2.take 2)) < 0 := by first | omega | (simp_all; omega) | simp_all
   have hret : leafB key ops2 nt (lo, hi) = (lo, hi) := by unfold leafB; rw [opK_at hlt2, if_neg hcnd, if_pos hc2]
   rw [hret] at hres
   refine CD.ret ?_
   refine ⟨.inr rfl, _, [⟨b0, _, _, _⟩], (by repeat (first | exact List.Sublist.refl _ | (apply List.Sublist.cons_cons; exact List.nil_sublist _) | apply List.Sublist.cons)), ret_none Tryz.results21 , ?_⟩
   refine ⟨rfl, ?_⟩
   first | rw [hfh] | rw [hres]
  ·have hg89' := hg89; (try simp only [V.cnd, ne_eq] at hg89')
   refine os_ mv_ ?_
   refine os_ bn_ ?_
   refine os_ pkF_ ?_
   refine nm_ [0, 2, 6, 8, 9, 10, 92] ?_
   refine CD.cond ot (fun hc3 => ?_) (fun hc3 => ?_)
   ·have hc3' := hc3
    (try simp only [V.cnd, ne_eq] at hc3')
    have hc2 : (idxG (keyCol key) (ops2.take 2)) < 0 ∨ (idxG litNN (ops2.take 2)) < 0 := by first | omega | (simp_all; omega) | simp_all
    have hret : leafB key ops2 nt (lo, hi) = (lo, hi) := by unfold leafB; rw [opK_at hlt2, if_neg hcnd, if_pos hc2]
    rw [hret] at hres
    refine CD.ret ?_
    refine ⟨.inr rfl, _, [⟨b0, _, _, _⟩], (by repeat (first | exact List.Sublist.refl _ | (apply List.Sublist.cons_cons; exact List.nil_sublist _) | apply List.Sublist.cons)), ret_none Tryz.results21 , ?_⟩
    refine ⟨rfl, ?_⟩
    first | rw [hfh] | rw [hres]
   ·have hc3' := hc3
    (try simp only [V.cnd, ne_eq] at hc3')
    have hc2 : ¬ ((idxG (keyCol key) (ops2.take 2)) < 0 ∨ (idxG litNN (ops2.take 2)) < 0) := by first | omega | (simp_all; omega) | simp_all
    have hLb := idxG_bd litNN (ops2.take 2)
    have hl3 : ops2.length = 3 := by omega
    rw [List.length_take] at hLb
    have hlL : (idxG litNN (ops2.take 2)).toNat < ops2.length := by omega
    have hlk : litK ops2 = (encR [ops2[(idxG litNN (ops2.take 2)).toNat].v]).1 := by unfold litK; rw [List.getD_eq_getElem?_getD, List.getElem?_eq_getElem hlL]; rfl
    have hres2 : (narF key (f + 1) ops (lo, hi)) = cutB (idxG (keyCol key) (ops2.take 2)) (ops2[ops2.length - 1].k == 6) nt (encR [ops2[(idxG litNN (ops2.take 2)).toNat].v]).1 (lo, hi) := by rw [hres]; unfold leafB; rw [opK_at hlt2, if_neg hcnd, if_neg hc2, hlk]
    have hev := enc_vp hG [ops2[(idxG litNN (ops2.take 2)).toNat].v] (by simp; omega) (fun v hv => by rw [List.mem_singleton] at hv; rw [hv]; exact hok2 _ (List.getElem_mem hlL))
    have hkl := enc_len [ops2[(idxG litNN (ops2.take 2)).toNat].v]
    unfold encD bytesL at hev
    refine CD.skip ?_
    refine sr_ ?_
    refine os_ mv_ ?_
    refine os_ mv_ ?_
    refine os_ (ix_ 5 (h := by first | exact .l (j := (idxG litNN (ops2.take 2)).toNat) (by omega) hlL | exact .r (j := (idxG litNN (ops2.take 2)).toNat) (by omega) hlL)) ?_
    refine os_ (fa_ 1) ?_
    refine OD.still (wants_plain rfl) rfl (still_r1 (mk := Op.load 26) rfl ot (ld_is Tryz.isAgg26 Tryz.sizeOf26 rfl (op_val hlL))) ?_
    refine OD.bldS (pl := numD 0 [_]) (zvs := [.int .i64 0, .int .i64 0, .string ⟨#[]⟩]) (ds := [_, _, _]) (wants_plain rfl) rfl rfl Tryz.zeroValue26 Tryz.runUnderlying23 Tryz.sizeOf26 rfl rfl (by kernel_rfl) ⟨rfl, ot, trivial⟩ (by exact rfl) (fill_full (by exact rfl) (by exact rfl) (by exact rfl)) (fun b99 => ?_)
    refine OD.perm (perm_q11 (S1 := [⟨b99, 26, 1 * 3, List.flatMap cV ([ops2[(idxG litNN (ops2.take 2)).toNat].v])⟩]) (A := [_, _])) ?_
    refine OD.giveL (t := 99) (Sq := [⟨b99, 26, 1 * 3, List.flatMap cV ([ops2[(idxG litNN (ops2.take 2)).toNat].v])⟩]) lk (ownL_row (g := cV) (sz := 3) (e := 26) (ls := [ops2[(idxG litNN (ops2.take 2)).toNat].v]) (Nat.le_refl _) (show 1 ≤ maxLen by decide)) (fm_len cV_len _) (perm_r11 (A := [_, _])) ?_
    refine OD.callP (wants_plain rfl) rfl rfl rfl Tryz.call12 (hev) ⟨ot, trivial⟩ ?_
    refine os_ mv_ ?_
    refine os_ ex_ ?_
    refine os_ ex_ ?_
    refine os_ mv_ ?_
    refine os_ mv_ ?_
    refine OD.wk (Wk.as_ (n := 155) (l' := [(0, _), (2, _), (6, _), (8, _), (9, _), (11, _)]) (S' := [⟨b4, 9, 1, [_]⟩, ⟨b0, 58, 2, [_, _]⟩]) rfl rfl ⟨lk, lk, lk, lk, lk, lk, trivial⟩) ?_
    refine OD.nil ?_
    refine sr_ ?_
    refine os_ mv_ ?_
    refine os_ mv_ ?_
    refine os_ (ix_ 5 (h := by first | exact .l (j := (ops2.length - 1)) rfl hlt2 | exact .r (j := (ops2.length - 1)) rfl hlt2)) ?_
    refine os_ (fa_ 0) ?_
    refine os_ ld_ ?_
    refine os_ bn_ ?_
    refine os_ mv_ ?_
    refine nm_ [0, 8, 9, 11, 13] ?_
    refine CD.cut (fun y__ => ∃ (b1 : BdL), (b1 = (bif (ops2[ops2.length - 1].k == 6) || (((idxG (keyCol key) (ops2.take 2)) == 0) == nt) then lowF (encR [ops2[(idxG litNN (ops2.take 2)).toNat].v]).1 (lo, hi) else (lo, hi))) ∧ (b1.1.length ≤ 100) ∧ (b1.2.length ≤ 100) ∧ y__ = (⟨155, [(0, .v (.pointer (some ⟨b0, 0, none⟩))), (8, .v (.bool nt)), (9, .v (.int .i64 (idxG (keyCol key) (ops2.take 2)))), (11, .list 1 ((encR [ops2[(idxG litNN (ops2.take 2)).toNat].v]).1.flatMap cB) (encR [ops2[(idxG litNN (ops2.take 2)).toNat].v]).1.length), (13, .v (.bool (ops2[ops2.length - 1].k == 6)))], [⟨b0, 58, 2, [.list 1 (b1.1.flatMap cB) b1.1.length, .list 1 (b1.2.flatMap cB) b1.2.length]⟩]⟩ : St)) ?_ ?_
    ·skip
     refine sr_ ?_
     refine os_ mv_ ?_
     refine os_ mv_ ?_
     refine OD.split (t := 110) lk (fun hg110 => ?_) (fun hg110 => ?_)
     ·have hg110' := hg110; (try simp only [V.cnd, ne_eq] at hg110')
      refine sk_ ?_
      refine sk_ ?_
      refine sk_ ?_
      refine sk_ ?_
      refine os_ pkT_ ?_
      refine nm_ [0, 8, 9, 11, 13, 115] ?_
      refine CD.condT ot (by first | rfl | assumption) ?_
      have he1 : ((ops2[ops2.length - 1].k == 6) || (((idxG (keyCol key) (ops2.take 2)) == 0) == nt)) = true := by first | rw [hg110, Bool.true_or] | rw [hc4, Bool.or_true]
      refine sr_ ?_
      refine os_ mv_ ?_
      refine os_ mv_ ?_
      refine os_ nc_ ?_
      refine os_ (fa_ 0) ?_
      refine os_ (lb_ 1) ?_
      refine OD.callP (wants_plain rfl) rfl rfl rfl Tryz.call40 (bcmp_vp (encR [ops2[(idxG litNN (ops2.take 2)).toNat].v]).1 lo) ⟨ot, ot, trivial⟩ ?_
      refine os_ bn_ ?_
      refine OD.wk (Wk.as_ (n := 155) (l' := [(0, _), (8, _), (9, _), (11, _), (13, _), (122, _)]) (S' := [⟨b4, 9, 1, [_]⟩, ⟨b0, 58, 2, [_, _]⟩]) rfl rfl ⟨lk, lk, lk, lk, lk, lk, trivial⟩) ?_
      refine OD.nil ?_
      refine CD.cond ot (fun hc5 => ?_) (fun hc5 => ?_)
      ·have hc5' := hc5
       (try simp only [V.cnd, ne_eq] at hc5')
       have hcp : compareBytes (encR [ops2[(idxG litNN (ops2.take 2)).toNat].v]).1 lo > 0 := by simpa using hc5
       have hfb : ((encR [ops2[(idxG litNN (ops2.take 2)).toNat].v]).1, hi) = (bif (ops2[ops2.length - 1].k == 6) || (((idxG (keyCol key) (ops2.take 2)) == 0) == nt) then lowF (encR [ops2[(idxG litNN (ops2.take 2)).toNat].v]).1 (lo, hi) else (lo, hi)) := by rw [he1]; show _ = lowF _ _; unfold lowF; rw [if_pos hcp]
       refine CD.region ?_
       refine os_ mv_ ?_
       refine os_ mv_ ?_
       refine OD.callP (wants_plain rfl) rfl rfl rfl Tryz.call41 (clone_vp (encR [ops2[(idxG litNN (ops2.take 2)).toNat].v]).1 (by omega)) ⟨ot, trivial⟩ ?_
       refine os_ nc_ ?_
       refine os_ (fa_ 0) ?_
       refine OD.store (k := 1) (cs' := [_, _]) (wants_plain rfl) rfl rfl ot rfl rfl ot rfl rfl Tryz.sizeOf39 rfl rfl rfl ?_
       refine OD.wk (Wk.as_ (n := 155) (l' := [(0, _), (8, _), (9, _), (11, _), (13, _)]) (S' := [⟨b4, 9, 1, [_]⟩, ⟨b0, 58, 2, [_, _]⟩]) rfl rfl ⟨lk, lk, lk, lk, lk, trivial⟩) ?_
       refine OD.nil ?_
       refine ⟨(⟨155, [(0, .v (.pointer (some ⟨b0, 0, none⟩))), (8, .v (.bool nt)), (9, .v (.int .i64 (idxG (keyCol key) (ops2.take 2)))), (11, .list 1 ((encR [ops2[(idxG litNN (ops2.take 2)).toNat].v]).1.flatMap cB) (encR [ops2[(idxG litNN (ops2.take 2)).toNat].v]).1.length), (13, .v (.bool (ops2[ops2.length - 1].k == 6)))], [⟨b0, 58, 2, [.list 1 ((((encR [ops2[(idxG litNN (ops2.take 2)).toNat].v]).1, hi)).1.flatMap cB) (((encR [ops2[(idxG litNN (ops2.take 2)).toNat].v]).1, hi)).1.length, .list 1 ((((encR [ops2[(idxG litNN (ops2.take 2)).toNat].v]).1, hi)).2.flatMap cB) (((encR [ops2[(idxG litNN (ops2.take 2)).toNat].v]).1, hi)).2.length]⟩]⟩ : St), Wk.asS (n := 155) rfl (by repeat (first | exact List.Sublist.refl _ | (apply List.Sublist.cons_cons; exact List.nil_sublist _) | apply List.Sublist.cons)) ⟨(by (repeat (first | exact look_hit | (apply look_at; focus (first | rfl | (simp; done) | (congr 2; omega))) | (apply look_miss; focus rfl))); done), (by (repeat (first | exact look_hit | (apply look_at; focus (first | rfl | (simp; done) | (congr 2; omega))) | (apply look_miss; focus rfl))); done), (by (repeat (first | exact look_hit | (apply look_at; focus (first | rfl | (simp; done) | (congr 2; omega))) | (apply look_miss; focus rfl))); done), (by (repeat (first | exact look_hit | (apply look_at; focus (first | rfl | (simp; done) | (congr 2; omega))) | (apply look_miss; focus rfl))); done), (by (repeat (first | exact look_hit | (apply look_at; focus (first | rfl | (simp; done) | (congr 2; omega))) | (apply look_miss; focus rfl))); done), trivial⟩, ((encR [ops2[(idxG litNN (ops2.take 2)).toNat].v]).1, hi), hfb, (by first | exact hkl | exact hlo), hhi, rfl⟩
      ·have hc5' := hc5
       (try simp only [V.cnd, ne_eq] at hc5')
       have hcp : ¬ compareBytes (encR [ops2[(idxG litNN (ops2.take 2)).toNat].v]).1 lo > 0 := by simpa using hc5
       have hfb : (lo, hi) = (bif (ops2[ops2.length - 1].k == 6) || (((idxG (keyCol key) (ops2.take 2)) == 0) == nt) then lowF (encR [ops2[(idxG litNN (ops2.take 2)).toNat].v]).1 (lo, hi) else (lo, hi)) := by rw [he1]; show _ = lowF _ _; unfold lowF; rw [if_neg hcp]
       refine CD.skip ?_
       refine ⟨(⟨155, [(0, .v (.pointer (some ⟨b0, 0, none⟩))), (8, .v (.bool nt)), (9, .v (.int .i64 (idxG (keyCol key) (ops2.take 2)))), (11, .list 1 ((encR [ops2[(idxG litNN (ops2.take 2)).toNat].v]).1.flatMap cB) (encR [ops2[(idxG litNN (ops2.take 2)).toNat].v]).1.length), (13, .v (.bool (ops2[ops2.length - 1].k == 6)))], [⟨b0, 58, 2, [.list 1 (((lo, hi)).1.flatMap cB) ((lo, hi)).1.length, .list 1 (((lo, hi)).2.flatMap cB) ((lo, hi)).2.length]⟩]⟩ : St), Wk.asS (n := 155) rfl (by repeat (first | exact List.Sublist.refl _ | (apply List.Sublist.cons_cons; exact List.nil_sublist _) | apply List.Sublist.cons)) ⟨(by (repeat (first | exact look_hit | (apply look_at; focus (first | rfl | (simp; done) | (congr 2; omega))) | (apply look_miss; focus rfl))); done), (by (repeat (first | exact look_hit | (apply look_at; focus (first | rfl | (simp; done) | (congr 2; omega))) | (apply look_miss; focus rfl))); done), (by (repeat (first | exact look_hit | (apply look_at; focus (first | rfl | (simp; done) | (congr 2; omega))) | (apply look_miss; focus rfl))); done), (by (repeat (first | exact look_hit | (apply look_at; focus (first | rfl | (simp; done) | (congr 2; omega))) | (apply look_miss; focus rfl))); done), (by (repeat (first | exact look_hit | (apply look_at; focus (first | rfl | (simp; done) | (congr 2; omega))) | (apply look_miss; focus rfl))); done), trivial⟩, (lo, hi), hfb, (by first | exact hkl | exact hlo), hhi, rfl⟩
     ·have hg110' := hg110; (try simp only [V.cnd, ne_eq] at hg110')
      refine os_ mv_ ?_
      refine os_ bn_ ?_
      refine os_ mv_ ?_
      refine OD.still (wants_T rfl rfl rfl lk (by first | rfl | assumption)) rfl (still_bin rfl ot ot (bin_beql Tryz.underlying4)) ?_
      refine os_ pkF_ ?_
      refine OD.wk (Wk.as_ (n := 155) (l' := [(0, _), (8, _), (9, _), (11, _), (13, _), (115, _)]) (S' := [⟨b4, 9, 1, [_]⟩, ⟨b0, 58, 2, [_, _]⟩]) rfl rfl ⟨lk, lk, lk, lk, lk, lk, trivial⟩) ?_
      refine OD.nil ?_
      refine CD.cond ot (fun hc4 => ?_) (fun hc4 => ?_)
      ·have hc4' := hc4
       (try simp only [V.cnd, ne_eq] at hc4')
       have he1 : ((ops2[ops2.length - 1].k == 6) || (((idxG (keyCol key) (ops2.take 2)) == 0) == nt)) = true := by first | rw [hg110, Bool.true_or] | rw [hc4, Bool.or_true]
       refine sr_ ?_
       refine os_ mv_ ?_
       refine os_ mv_ ?_
       refine os_ nc_ ?_
       refine os_ (fa_ 0) ?_
       refine os_ (lb_ 1) ?_
       refine OD.callP (wants_plain rfl) rfl rfl rfl Tryz.call40 (bcmp_vp (encR [ops2[(idxG litNN (ops2.take 2)).toNat].v]).1 lo) ⟨ot, ot, trivial⟩ ?_
       refine os_ bn_ ?_
       refine OD.wk (Wk.as_ (n := 155) (l' := [(0, _), (8, _), (9, _), (11, _), (13, _), (122, _)]) (S' := [⟨b4, 9, 1, [_]⟩, ⟨b0, 58, 2, [_, _]⟩]) rfl rfl ⟨lk, lk, lk, lk, lk, lk, trivial⟩) ?_
       refine OD.nil ?_
       refine CD.cond ot (fun hc5 => ?_) (fun hc5 => ?_)
       ·have hc5' := hc5
        (try simp only [V.cnd, ne_eq] at hc5')
        have hcp : compareBytes (encR [ops2[(idxG litNN (ops2.take 2)).toNat].v]).1 lo > 0 := by simpa using hc5
        have hfb : ((encR [ops2[(idxG litNN (ops2.take 2)).toNat].v]).1, hi) = (bif (ops2[ops2.length - 1].k == 6) || (((idxG (keyCol key) (ops2.take 2)) == 0) == nt) then lowF (encR [ops2[(idxG litNN (ops2.take 2)).toNat].v]).1 (lo, hi) else (lo, hi)) := by rw [he1]; show _ = lowF _ _; unfold lowF; rw [if_pos hcp]
        refine CD.region ?_
        refine os_ mv_ ?_
        refine os_ mv_ ?_
        refine OD.callP (wants_plain rfl) rfl rfl rfl Tryz.call41 (clone_vp (encR [ops2[(idxG litNN (ops2.take 2)).toNat].v]).1 (by omega)) ⟨ot, trivial⟩ ?_
        refine os_ nc_ ?_
        refine os_ (fa_ 0) ?_
        refine OD.store (k := 1) (cs' := [_, _]) (wants_plain rfl) rfl rfl ot rfl rfl ot rfl rfl Tryz.sizeOf39 rfl rfl rfl ?_
        refine OD.wk (Wk.as_ (n := 155) (l' := [(0, _), (8, _), (9, _), (11, _), (13, _)]) (S' := [⟨b4, 9, 1, [_]⟩, ⟨b0, 58, 2, [_, _]⟩]) rfl rfl ⟨lk, lk, lk, lk, lk, trivial⟩) ?_
        refine OD.nil ?_
        refine ⟨(⟨155, [(0, .v (.pointer (some ⟨b0, 0, none⟩))), (8, .v (.bool nt)), (9, .v (.int .i64 (idxG (keyCol key) (ops2.take 2)))), (11, .list 1 ((encR [ops2[(idxG litNN (ops2.take 2)).toNat].v]).1.flatMap cB) (encR [ops2[(idxG litNN (ops2.take 2)).toNat].v]).1.length), (13, .v (.bool (ops2[ops2.length - 1].k == 6)))], [⟨b0, 58, 2, [.list 1 ((((encR [ops2[(idxG litNN (ops2.take 2)).toNat].v]).1, hi)).1.flatMap cB) (((encR [ops2[(idxG litNN (ops2.take 2)).toNat].v]).1, hi)).1.length, .list 1 ((((encR [ops2[(idxG litNN (ops2.take 2)).toNat].v]).1, hi)).2.flatMap cB) (((encR [ops2[(idxG litNN (ops2.take 2)).toNat].v]).1, hi)).2.length]⟩]⟩ : St), Wk.asS (n := 155) rfl (by repeat (first | exact List.Sublist.refl _ | (apply List.Sublist.cons_cons; exact List.nil_sublist _) | apply List.Sublist.cons)) ⟨(by (repeat (first | exact look_hit | (apply look_at; focus (first | rfl | (simp; done) | (congr 2; omega))) | (apply look_miss; focus rfl))); done), (by (repeat (first | exact look_hit | (apply look_at; focus (first | rfl | (simp; done) | (congr 2; omega))) | (apply look_miss; focus rfl))); done), (by (repeat (first | exact look_hit | (apply look_at; focus (first | rfl | (simp; done) | (congr 2; omega))) | (apply look_miss; focus rfl))); done), (by (repeat (first | exact look_hit | (apply look_at; focus (first | rfl | (simp; done) | (congr 2; omega))) | (apply look_miss; focus rfl))); done), (by (repeat (first | exact look_hit | (apply look_at; focus (first | rfl | (simp; done) | (congr 2; omega))) | (apply look_miss; focus rfl))); done), trivial⟩, ((encR [ops2[(idxG litNN (ops2.take 2)).toNat].v]).1, hi), hfb, (by first | exact hkl | exact hlo), hhi, rfl⟩
       ·have hc5' := hc5
        (try simp only [V.cnd, ne_eq] at hc5')
        have hcp : ¬ compareBytes (encR [ops2[(idxG litNN (ops2.take 2)).toNat].v]).1 lo > 0 := by simpa using hc5
        have hfb : (lo, hi) = (bif (ops2[ops2.length - 1].k == 6) || (((idxG (keyCol key) (ops2.take 2)) == 0) == nt) then lowF (encR [ops2[(idxG litNN (ops2.take 2)).toNat].v]).1 (lo, hi) else (lo, hi)) := by rw [he1]; show _ = lowF _ _; unfold lowF; rw [if_neg hcp]
        refine CD.skip ?_
        refine ⟨(⟨155, [(0, .v (.pointer (some ⟨b0, 0, none⟩))), (8, .v (.bool nt)), (9, .v (.int .i64 (idxG (keyCol key) (ops2.take 2)))), (11, .list 1 ((encR [ops2[(idxG litNN (ops2.take 2)).toNat].v]).1.flatMap cB) (encR [ops2[(idxG litNN (ops2.take 2)).toNat].v]).1.length), (13, .v (.bool (ops2[ops2.length - 1].k == 6)))], [⟨b0, 58, 2, [.list 1 (((lo, hi)).1.flatMap cB) ((lo, hi)).1.length, .list 1 (((lo, hi)).2.flatMap cB) ((lo, hi)).2.length]⟩]⟩ : St), Wk.asS (n := 155) rfl (by repeat (first | exact List.Sublist.refl _ | (apply List.Sublist.cons_cons; exact List.nil_sublist _) | apply List.Sublist.cons)) ⟨(by (repeat (first | exact look_hit | (apply look_at; focus (first | rfl | (simp; done) | (congr 2; omega))) | (apply look_miss; focus rfl))); done), (by (repeat (first | exact look_hit | (apply look_at; focus (first | rfl | (simp; done) | (congr 2; omega))) | (apply look_miss; focus rfl))); done), (by (repeat (first | exact look_hit | (apply look_at; focus (first | rfl | (simp; done) | (congr 2; omega))) | (apply look_miss; focus rfl))); done), (by (repeat (first | exact look_hit | (apply look_at; focus (first | rfl | (simp; done) | (congr 2; omega))) | (apply look_miss; focus rfl))); done), (by (repeat (first | exact look_hit | (apply look_at; focus (first | rfl | (simp; done) | (congr 2; omega))) | (apply look_miss; focus rfl))); done), trivial⟩, (lo, hi), hfb, (by first | exact hkl | exact hlo), hhi, rfl⟩
      ·have hc4' := hc4
       (try simp only [V.cnd, ne_eq] at hc4')
       have hfb : (lo, hi) = (bif (ops2[ops2.length - 1].k == 6) || (((idxG (keyCol key) (ops2.take 2)) == 0) == nt) then lowF (encR [ops2[(idxG litNN (ops2.take 2)).toNat].v]).1 (lo, hi) else (lo, hi)) := by rw [hg110, hc4]; rfl
       refine CD.skip ?_
       refine ⟨(⟨155, [(0, .v (.pointer (some ⟨b0, 0, none⟩))), (8, .v (.bool nt)), (9, .v (.int .i64 (idxG (keyCol key) (ops2.take 2)))), (11, .list 1 ((encR [ops2[(idxG litNN (ops2.take 2)).toNat].v]).1.flatMap cB) (encR [ops2[(idxG litNN (ops2.take 2)).toNat].v]).1.length), (13, .v (.bool (ops2[ops2.length - 1].k == 6)))], [⟨b0, 58, 2, [.list 1 (((lo, hi)).1.flatMap cB) ((lo, hi)).1.length, .list 1 (((lo, hi)).2.flatMap cB) ((lo, hi)).2.length]⟩]⟩ : St), Wk.asS (n := 155) rfl (by repeat (first | exact List.Sublist.refl _ | (apply List.Sublist.cons_cons; exact List.nil_sublist _) | apply List.Sublist.cons)) ⟨(by (repeat (first | exact look_hit | (apply look_at; focus (first | rfl | (simp; done) | (congr 2; omega))) | (apply look_miss; focus rfl))); done), (by (repeat (first | exact look_hit | (apply look_at; focus (first | rfl | (simp; done) | (congr 2; omega))) | (apply look_miss; focus rfl))); done), (by (repeat (first | exact look_hit | (apply look_at; focus (first | rfl | (simp; done) | (congr 2; omega))) | (apply look_miss; focus rfl))); done), (by (repeat (first | exact look_hit | (apply look_at; focus (first | rfl | (simp; done) | (congr 2; omega))) | (apply look_miss; focus rfl))); done), (by (repeat (first | exact look_hit | (apply look_at; focus (first | rfl | (simp; done) | (congr 2; omega))) | (apply look_miss; focus rfl))); done), trivial⟩, (lo, hi), hfb, (by first | exact hkl | exact hlo), hhi, rfl⟩
    rintro _ ⟨b1, hb1, hbl1, hbl2, rfl⟩
    refine sr_ ?_
    refine os_ mv_ ?_
    refine os_ mv_ ?_
    refine OD.split (t := 129) lk (fun hg129 => ?_) (fun hg129 => ?_)
    ·have hg129' := hg129; (try simp only [V.cnd, ne_eq] at hg129')
     refine sk_ ?_
     refine sk_ ?_
     refine sk_ ?_
     refine sk_ ?_
     refine os_ pkT_ ?_
     refine nm_ [0, 11, 134] ?_
     refine CD.condT ot (by first | rfl | assumption) ?_
     have he2 : ((ops2[ops2.length - 1].k == 6) || !(((idxG (keyCol key) (ops2.take 2)) == 0) == nt)) = true := by first | rw [hg129, Bool.true_or] | rw [hc6, Bool.or_true]
     have he3 : (narF key (f + 1) ops (lo, hi)) = highF (encR [ops2[(idxG litNN (ops2.take 2)).toNat].v]).1 b1 := by rw [hres2]; unfold cutB; rw [show ((ops2[ops2.length - 1].k == 6) || ((idxG (keyCol key) (ops2.take 2)) == 0) != nt) = true from he2, ← hb1]; rfl
     refine sr_ ?_
     refine os_ mv_ ?_
     refine os_ nc_ ?_
     refine os_ (fa_ 1) ?_
     refine os_ (lb_ 0) ?_
     refine os_ ln_ ?_
     refine os_ bn_ ?_
     refine os_ mv_ ?_
     refine OD.split (t := 141) lk (fun hg141 => ?_) (fun hg141 => ?_)
     ·have hg141' := hg141; (try simp only [V.cnd, ne_eq] at hg141')
      refine sk_ ?_
      refine sk_ ?_
      refine sk_ ?_
      refine sk_ ?_
      refine sk_ ?_
      refine sk_ ?_
      refine sk_ ?_
      refine os_ pkT_ ?_
      refine nm_ [0, 11, 149] ?_
      refine CD.condT ot (by first | rfl | assumption) ?_
      have hcq : b1.2.length = 0 ∨ compareBytes (encR [ops2[(idxG litNN (ops2.take 2)).toNat].v]).1 b1.2 < 0 := by first | exact .inl (by omega) | exact .inr (by simpa using hc7)
      have hfh : (narF key (f + 1) ops (lo, hi)) = (b1.1, (encR [ops2[(idxG litNN (ops2.take 2)).toNat].v]).1) := by rw [he3]; unfold highF; rw [if_pos hcq]
      refine CD.region ?_
      refine os_ mv_ ?_
      refine os_ mv_ ?_
      refine OD.callP (wants_plain rfl) rfl rfl rfl Tryz.call41 (clone_vp (encR [ops2[(idxG litNN (ops2.take 2)).toNat].v]).1 (by omega)) ⟨ot, trivial⟩ ?_
      refine os_ nc_ ?_
      refine os_ (fa_ 1) ?_
      refine OD.store (k := 0) (cs' := [_, _]) (wants_plain rfl) rfl rfl ot rfl rfl ot rfl rfl Tryz.sizeOf39 rfl rfl rfl ?_
      refine OD.wk (Wk.as_ (n := 155) (l' := []) (S' := [⟨b0, 58, 2, [_, _]⟩]) rfl rfl trivial) ?_
      refine OD.nil ?_
      refine ⟨.inl rfl, _, [⟨b0, _, _, _⟩], (by repeat (first | exact List.Sublist.refl _ | (apply List.Sublist.cons_cons; exact List.nil_sublist _) | apply List.Sublist.cons)), ret_none Tryz.results21 , ?_⟩
      refine ⟨rfl, ?_⟩
      first | rw [hfh] | rw [hres]
     ·have hg141' := hg141; (try simp only [V.cnd, ne_eq] at hg141')
      refine os_ mv_ ?_
      refine os_ mv_ ?_
      refine os_ nc_ ?_
      refine os_ (fa_ 1) ?_
      refine os_ (lb_ 0) ?_
      refine OD.callP (wants_T rfl rfl rfl lk (by first | rfl | assumption)) rfl rfl rfl Tryz.call40 (bcmp_vp (encR [ops2[(idxG litNN (ops2.take 2)).toNat].v]).1 b1.2) ⟨ot, ot, trivial⟩ ?_
      refine os_ bn_ ?_
      refine os_ pkF_ ?_
      refine OD.wk (Wk.as_ (n := 155) (l' := [(0, _), (11, _), (149, _)]) (S' := [⟨b0, 58, 2, [_, _]⟩]) rfl rfl ⟨lk, lk, lk, trivial⟩) ?_
      refine OD.nil ?_
      refine CD.cond ot (fun hc7 => ?_) (fun hc7 => ?_)
      ·have hc7' := hc7
       (try simp only [V.cnd, ne_eq] at hc7')
       have hcq : b1.2.length = 0 ∨ compareBytes (encR [ops2[(idxG litNN (ops2.take 2)).toNat].v]).1 b1.2 < 0 := by first | exact .inl (by omega) | exact .inr (by simpa using hc7)
       have hfh : (narF key (f + 1) ops (lo, hi)) = (b1.1, (encR [ops2[(idxG litNN (ops2.take 2)).toNat].v]).1) := by rw [he3]; unfold highF; rw [if_pos hcq]
       refine CD.region ?_
       refine os_ mv_ ?_
       refine os_ mv_ ?_
       refine OD.callP (wants_plain rfl) rfl rfl rfl Tryz.call41 (clone_vp (encR [ops2[(idxG litNN (ops2.take 2)).toNat].v]).1 (by omega)) ⟨ot, trivial⟩ ?_
       refine os_ nc_ ?_
       refine os_ (fa_ 1) ?_
       refine OD.store (k := 0) (cs' := [_, _]) (wants_plain rfl) rfl rfl ot rfl rfl ot rfl rfl Tryz.sizeOf39 rfl rfl rfl ?_
       refine OD.wk (Wk.as_ (n := 155) (l' := []) (S' := [⟨b0, 58, 2, [_, _]⟩]) rfl rfl trivial) ?_
       refine OD.nil ?_
       refine ⟨.inl rfl, _, [⟨b0, _, _, _⟩], (by repeat (first | exact List.Sublist.refl _ | (apply List.Sublist.cons_cons; exact List.nil_sublist _) | apply List.Sublist.cons)), ret_none Tryz.results21 , ?_⟩
       refine ⟨rfl, ?_⟩
       first | rw [hfh] | rw [hres]
      ·have hc7' := hc7
       (try simp only [V.cnd, ne_eq] at hc7')
       have hcq : ¬ (b1.2.length = 0 ∨ compareBytes (encR [ops2[(idxG litNN (ops2.take 2)).toNat].v]).1 b1.2 < 0) := by (have hcr : ¬ compareBytes (encR [ops2[(idxG litNN (ops2.take 2)).toNat].v]).1 b1.2 < 0 := by simpa using hc7); omega
       have hfh : (narF key (f + 1) ops (lo, hi)) = b1 := by rw [he3]; unfold highF; rw [if_neg hcq]
       refine CD.skip ?_
       refine ⟨.inl rfl, _, [⟨b0, _, _, _⟩], (by repeat (first | exact List.Sublist.refl _ | (apply List.Sublist.cons_cons; exact List.nil_sublist _) | apply List.Sublist.cons)), ret_none Tryz.results21 , ?_⟩
       refine ⟨rfl, ?_⟩
       first | rw [hfh] | rw [hres]
    ·have hg129' := hg129; (try simp only [V.cnd, ne_eq] at hg129')
     refine os_ mv_ ?_
     refine os_ bn_ ?_
     refine os_ mv_ ?_
     refine OD.still (wants_T rfl rfl rfl lk (by first | rfl | assumption)) rfl (still_bin rfl ot ot (bin_bneq Tryz.underlying4)) ?_
     refine os_ pkF_ ?_
     refine OD.wk (Wk.as_ (n := 155) (l' := [(0, _), (11, _), (134, _)]) (S' := [⟨b0, 58, 2, [_, _]⟩]) rfl rfl ⟨lk, lk, lk, trivial⟩) ?_
     refine OD.nil ?_
     refine CD.cond ot (fun hc6 => ?_) (fun hc6 => ?_)
     ·have hc6' := hc6
      (try simp only [V.cnd, ne_eq] at hc6')
      have he2 : ((ops2[ops2.length - 1].k == 6) || !(((idxG (keyCol key) (ops2.take 2)) == 0) == nt)) = true := by first | rw [hg129, Bool.true_or] | rw [hc6, Bool.or_true]
      have he3 : (narF key (f + 1) ops (lo, hi)) = highF (encR [ops2[(idxG litNN (ops2.take 2)).toNat].v]).1 b1 := by rw [hres2]; unfold cutB; rw [show ((ops2[ops2.length - 1].k == 6) || ((idxG (keyCol key) (ops2.take 2)) == 0) != nt) = true from he2, ← hb1]; rfl
      refine sr_ ?_
      refine os_ mv_ ?_
      refine os_ nc_ ?_
      refine os_ (fa_ 1) ?_
      refine os_ (lb_ 0) ?_
      refine os_ ln_ ?_
      refine os_ bn_ ?_
      refine os_ mv_ ?_
      refine OD.split (t := 141) lk (fun hg141 => ?_) (fun hg141 => ?_)
      ·have hg141' := hg141; (try simp only [V.cnd, ne_eq] at hg141')
       refine sk_ ?_
       refine sk_ ?_
       refine sk_ ?_
       refine sk_ ?_
       refine sk_ ?_
       refine sk_ ?_
       refine sk_ ?_
       refine os_ pkT_ ?_
       refine nm_ [0, 11, 149] ?_
       refine CD.condT ot (by first | rfl | assumption) ?_
       have hcq : b1.2.length = 0 ∨ compareBytes (encR [ops2[(idxG litNN (ops2.take 2)).toNat].v]).1 b1.2 < 0 := by first | exact .inl (by omega) | exact .inr (by simpa using hc7)
       have hfh : (narF key (f + 1) ops (lo, hi)) = (b1.1, (encR [ops2[(idxG litNN (ops2.take 2)).toNat].v]).1) := by rw [he3]; unfold highF; rw [if_pos hcq]
       refine CD.region ?_
       refine os_ mv_ ?_
       refine os_ mv_ ?_
       refine OD.callP (wants_plain rfl) rfl rfl rfl Tryz.call41 (clone_vp (encR [ops2[(idxG litNN (ops2.take 2)).toNat].v]).1 (by omega)) ⟨ot, trivial⟩ ?_
       refine os_ nc_ ?_
       refine os_ (fa_ 1) ?_
       refine OD.store (k := 0) (cs' := [_, _]) (wants_plain rfl) rfl rfl ot rfl rfl ot rfl rfl Tryz.sizeOf39 rfl rfl rfl ?_
       refine OD.wk (Wk.as_ (n := 155) (l' := []) (S' := [⟨b0, 58, 2, [_, _]⟩]) rfl rfl trivial) ?_
       refine OD.nil ?_
       refine ⟨.inl rfl, _, [⟨b0, _, _, _⟩], (by repeat (first | exact List.Sublist.refl _ | (apply List.Sublist.cons_cons; exact List.nil_sublist _) | apply List.Sublist.cons)), ret_none Tryz.results21 , ?_⟩
       refine ⟨rfl, ?_⟩
       first | rw [hfh] | rw [hres]
      ·have hg141' := hg141; (try simp only [V.cnd, ne_eq] at hg141')
       refine os_ mv_ ?_
       refine os_ mv_ ?_
       refine os_ nc_ ?_
       refine os_ (fa_ 1) ?_
       refine os_ (lb_ 0) ?_
       refine OD.callP (wants_T rfl rfl rfl lk (by first | rfl | assumption)) rfl rfl rfl Tryz.call40 (bcmp_vp (encR [ops2[(idxG litNN (ops2.take 2)).toNat].v]).1 b1.2) ⟨ot, ot, trivial⟩ ?_
       refine os_ bn_ ?_
       refine os_ pkF_ ?_
       refine OD.wk (Wk.as_ (n := 155) (l' := [(0, _), (11, _), (149, _)]) (S' := [⟨b0, 58, 2, [_, _]⟩]) rfl rfl ⟨lk, lk, lk, trivial⟩) ?_
       refine OD.nil ?_
       refine CD.cond ot (fun hc7 => ?_) (fun hc7 => ?_)
       ·have hc7' := hc7
        (try simp only [V.cnd, ne_eq] at hc7')
        have hcq : b1.2.length = 0 ∨ compareBytes (encR [ops2[(idxG litNN (ops2.take 2)).toNat].v]).1 b1.2 < 0 := by first | exact .inl (by omega) | exact .inr (by simpa using hc7)
        have hfh : (narF key (f + 1) ops (lo, hi)) = (b1.1, (encR [ops2[(idxG litNN (ops2.take 2)).toNat].v]).1) := by rw [he3]; unfold highF; rw [if_pos hcq]
        refine CD.region ?_
        refine os_ mv_ ?_
        refine os_ mv_ ?_
        refine OD.callP (wants_plain rfl) rfl rfl rfl Tryz.call41 (clone_vp (encR [ops2[(idxG litNN (ops2.take 2)).toNat].v]).1 (by omega)) ⟨ot, trivial⟩ ?_
        refine os_ nc_ ?_
        refine os_ (fa_ 1) ?_
        refine OD.store (k := 0) (cs' := [_, _]) (wants_plain rfl) rfl rfl ot rfl rfl ot rfl rfl Tryz.sizeOf39 rfl rfl rfl ?_
        refine OD.wk (Wk.as_ (n := 155) (l' := []) (S' := [⟨b0, 58, 2, [_, _]⟩]) rfl rfl trivial) ?_
        refine OD.nil ?_
        refine ⟨.inl rfl, _, [⟨b0, _, _, _⟩], (by repeat (first | exact List.Sublist.refl _ | (apply List.Sublist.cons_cons; exact List.nil_sublist _) | apply List.Sublist.cons)), ret_none Tryz.results21 , ?_⟩
        refine ⟨rfl, ?_⟩
        first | rw [hfh] | rw [hres]
       ·have hc7' := hc7
        (try simp only [V.cnd, ne_eq] at hc7')
        have hcq : ¬ (b1.2.length = 0 ∨ compareBytes (encR [ops2[(idxG litNN (ops2.take 2)).toNat].v]).1 b1.2 < 0) := by (have hcr : ¬ compareBytes (encR [ops2[(idxG litNN (ops2.take 2)).toNat].v]).1 b1.2 < 0 := by simpa using hc7); omega
        have hfh : (narF key (f + 1) ops (lo, hi)) = b1 := by rw [he3]; unfold highF; rw [if_neg hcq]
        refine CD.skip ?_
        refine ⟨.inl rfl, _, [⟨b0, _, _, _⟩], (by repeat (first | exact List.Sublist.refl _ | (apply List.Sublist.cons_cons; exact List.nil_sublist _) | apply List.Sublist.cons)), ret_none Tryz.results21 , ?_⟩
        refine ⟨rfl, ?_⟩
        first | rw [hfh] | rw [hres]
     ·have hc6' := hc6
      (try simp only [V.cnd, ne_eq] at hc6')
      have he2 : ((ops2[ops2.length - 1].k == 6) || !(((idxG (keyCol key) (ops2.take 2)) == 0) == nt)) = false := by rw [hg129, hc6]; rfl
      have hfh : (narF key (f + 1) ops (lo, hi)) = b1 := by rw [hres2]; unfold cutB; rw [show ((ops2[ops2.length - 1].k == 6) || ((idxG (keyCol key) (ops2.take 2)) == 0) != nt) = false from he2, ← hb1]; rfl
      refine CD.skip ?_
      refine ⟨.inl rfl, _, [⟨b0, _, _, _⟩], (by repeat (first | exact List.Sublist.refl _ | (apply List.Sublist.cons_cons; exact List.nil_sublist _) | apply List.Sublist.cons)), ret_none Tryz.results21 , ?_⟩
      refine ⟨rfl, ?_⟩
      first | rw [hfh] | rw [hres]

theorem nar_vc (hG : (2, [Value.int .i64 m]) ∈ G) (key : ByteArray) : ∀ (f : Nat), f ≤ 40 → ∀ (ops : List OpL) (lo hi : List UInt8), ops.length ≤ f → runs 0 ops = some 1 → (∀ o ∈ ops, o.v.Ok) → lo.length ≤ 100 → hi.length ≤ 100 → ∀ b0, VC Tryz.prog G 21 [.v (.pointer (some ⟨b0, 0, none⟩)), .v (.string key), .list 5 (ops.flatMap cO) ops.length] [⟨b0, 58, 2, [.list 1 (lo.flatMap cB) lo.length, .list 1 (hi.flatMap cB) hi.length]⟩] (fun r S => r = .tup [] ∧ S = [⟨b0, 58, 2, [.list 1 ((narF key f ops (lo, hi)).1.flatMap cB) (narF key f ops (lo, hi)).1.length, .list 1 ((narF key f ops (lo, hi)).2.flatMap cB) (narF key f ops (lo, hi)).2.length]⟩]) := by
 intro f
 induction f with
 | zero =>
  intro _ ops lo hi hl hr
  have := runs_pos hr
  omega
 | succ f IH =>
  intro hf ops lo hi hl hr hok hlo hhi b0
  exact nar_step hG key f (by omega) (IH (by omega)) ops lo hi hl (by omega) hr hok hlo hhi b0
/-- What expr.Bounds answers. -/
def boundsR (l : List ColL) (ops : List OpL) : BdL × Int :=
  if colsF l ≠ 0 then (([], []), colsF l) else if ops.length = 0 then (([], []), 0) else if (kindR l ops).2 ≠ 0 then (([], []), (kindR l ops).2)
  else if (kindR l ops).1 ≠ 1 ∧ (kindR l ops).1 ≠ 0 then (([], []), 4) else (narF (l.getD 0 ⟨⟨#[]⟩, 0⟩).n ops.length ops ([], []), 0)
def bdD (r : BdL × Int) : D := .tup [bytesL r.1.1, bytesL r.1.2, .v (.int .i64 r.2)]
theorem cols_pos {l : List ColL} (h : colsF l = 0) : 0 < l.length := by
 unfold colsF at h
 split at h
 ·cases h
 ·omega
theorem expr_runs1 {ops : List OpL} (h : exprF ops = 0) : runs 0 ops = some 1 := by
  obtain ⟨_, h0⟩ := expr_ok h
  have key : ∀ (l : List OpL) (k : Int), exprL k l = 0 → runs k l = some 1 := by
    intro l
    induction l with
    | nil => intro k h; rw [exprL] at h; split at h; · rename_i e; rw [runs, e]
             · cases h
    | cons o r ih =>
      intro k h
      rw [exprL] at h
      split at h
      · rename_i e; rw [runs, if_pos e]; exact ih _ h
      · rename_i e; exact absurd h e
  exact key ops 0 h0

theorem places58_Ex8 : ∀ w, ((#[{ name := "low", type := 39, offset := 0, embedded := false, tag := "", pkgPath := "padlock/expr", byteOffset := 0 }, { name := "high", type := 39, offset := 1, embedded := false, tag := "", pkgPath := "padlock/expr", byteOffset := 24 }] : Array Field).mapM fun f => do pure (f.offset, ← sizeOf f.type) : Sem (Array (Nat × Nat))).run Tryz.prog w = .ok #[(0, 1), (1, 1)] w := fun w => by simp [Tryz.sizeOf39]

set_option maxHeartbeats 4000000 in
set_option maxRecDepth 100000 in
theorem Bounds_vp (hm : (3, marksC) ∈ G) (hw : (0, wordsC) ∈ G) (ht : (1, typesC) ∈ G) (hG : (2, [Value.int .i64 m]) ∈ G) (l : List ColL) (hl : l.length ≤ 1000) (hcok : ∀ c ∈ l, c.n.size ≤ maxLen) (ops : List OpL) (ho : ∀ o ∈ ops, o.nm.size ≤ maxLen) (hok : ∀ o ∈ ops, o.v.Ok) : VP Tryz.prog G 10 [.list 2 (l.flatMap cC) l.length, .list 5 (ops.flatMap cO) ops.length] (bdD (boundsR l ops)) := by
 refine VC.body Tryz.func10 rfl Tryz.ntmps10 (Nat.le_of_ble_eq_true rfl) fun X0 w0 S00 => ?_
 have hmx : maxLen = 9223372036854775807 := rfl
 have hcv := Cols_vp hm hw ht l (by omega) hcok
 have hkv := kind_vp hm hw ht l hl hcok ops ho
 unfold twoI at hkv
 unfold bdD bytesL
 refine sr_ ?_
 refine os_ mv_ ?_
 refine os_ mv_ ?_
 refine os_ mv_ ?_
 refine nm_ [0, 1] ?_
 refine CD.seq ?_
 refine sr_ ?_
 refine os_ mv_ ?_
 refine OD.callP (wants_plain rfl) rfl rfl rfl Tryz.call20 (hcv) ⟨ot, trivial⟩ ?_
 refine os_ mv_ ?_
 refine OD.wk (Wk.as_ (n := 50) (l' := [(0, _), (1, _), (7, _)]) (S' := []) rfl rfl ⟨lk, lk, lk, trivial⟩) ?_
 refine OD.nil ?_
 refine sr_ ?_
 refine os_ mv_ ?_
 refine os_ bn_ ?_
 refine nm_ [0, 1, 7, 13] ?_
 refine CD.cond ot (fun hc0 => ?_) (fun hc0 => ?_)
 ·have hc0' := hc0
  (try simp only [V.cnd, ne_eq] at hc0')
  have h0 : colsF l ≠ 0 := by simpa using hc0
  have hres : boundsR l ops = (([], []), colsF l) := by unfold boundsR; rw [if_pos h0]
  refine sr_ ?_
  refine os_ mv_ ?_
  refine os_ mv_ ?_
  refine os_ mv_ ?_
  refine os_ mv_ ?_
  refine nm_ [4, 5, 6] ?_
  refine CD.wk (Wk.giveNil (t := 4) (sz := 1) lk) ?_
  refine CD.wk (Wk.giveNil (t := 5) (sz := 1) lk) ?_
  refine CD.ret ?_
  refine ⟨.inr rfl, _, [], List.nil_sublist _, ret_three Tryz.results10 (res_tmp (Nat.le_of_ble_eq_true rfl) lk) (res_tmp (Nat.le_of_ble_eq_true rfl) lk) (res_tmp (Nat.le_of_ble_eq_true rfl) lk), ?_⟩
  rw [hres]; exact ⟨rfl, rfl⟩
 ·have hc0' := hc0
  (try simp only [V.cnd, ne_eq] at hc0')
  have h0 : ¬ colsF l ≠ 0 := by simpa using hc0
  have h0p := cols_pos (Classical.not_not.1 h0)
  refine CD.skip ?_
  refine CD.seq ?_
  refine sr_ ?_
  refine os_ mv_ ?_
  refine os_ ln_ ?_
  refine os_ bn_ ?_
  refine nm_ [0, 1, 17] ?_
  refine CD.cond ot (fun hc1 => ?_) (fun hc1 => ?_)
  ·have hc1' := hc1
   (try simp only [V.cnd, ne_eq] at hc1')
   have h1 : ops.length = 0 := by simpa using hc1
   have hres : boundsR l ops = (([], []), 0) := by unfold boundsR; rw [if_neg h0, if_pos h1]
   refine sr_ ?_
   refine os_ mv_ ?_
   refine os_ mv_ ?_
   refine os_ mv_ ?_
   refine nm_ [4, 5, 6] ?_
   refine CD.wk (Wk.giveNil (t := 4) (sz := 1) lk) ?_
   refine CD.wk (Wk.giveNil (t := 5) (sz := 1) lk) ?_
   refine CD.ret ?_
   refine ⟨.inr rfl, _, [], List.nil_sublist _, ret_three Tryz.results10 (res_tmp (Nat.le_of_ble_eq_true rfl) lk) (res_tmp (Nat.le_of_ble_eq_true rfl) lk) (res_tmp (Nat.le_of_ble_eq_true rfl) lk), ?_⟩
   rw [hres]; exact ⟨rfl, rfl⟩
  ·have hc1' := hc1
   (try simp only [V.cnd, ne_eq] at hc1')
   have h1 : ¬ ops.length = 0 := by simpa using hc1
   refine CD.skip ?_
   refine sr_ ?_
   refine os_ mv_ ?_
   refine os_ mv_ ?_
   refine OD.callP (wants_plain rfl) rfl rfl rfl Tryz.call9 (hkv) ⟨ot, ot, trivial⟩ ?_
   refine os_ mv_ ?_
   refine os_ ex_ ?_
   refine os_ ex_ ?_
   refine os_ mv_ ?_
   refine os_ mv_ ?_
   refine OD.wk (Wk.as_ (n := 50) (l' := [(0, _), (1, _), (6, _), (8, _)]) (S' := []) rfl rfl ⟨lk, lk, lk, lk, trivial⟩) ?_
   refine OD.nil ?_
   refine CD.seq ?_
   refine sr_ ?_
   refine os_ mv_ ?_
   refine os_ bn_ ?_
   refine nm_ [0, 1, 6, 8, 25] ?_
   refine CD.cond ot (fun hc2 => ?_) (fun hc2 => ?_)
   ·have hc2' := hc2
    (try simp only [V.cnd, ne_eq] at hc2')
    have h2 : (kindR l ops).2 ≠ 0 := by simpa using hc2
    have hres : boundsR l ops = (([], []), (kindR l ops).2) := by unfold boundsR; rw [if_neg h0, if_neg h1, if_pos h2]
    refine sr_ ?_
    refine os_ mv_ ?_
    refine os_ mv_ ?_
    refine os_ mv_ ?_
    refine os_ mv_ ?_
    refine nm_ [4, 5, 6] ?_
    refine CD.wk (Wk.giveNil (t := 4) (sz := 1) lk) ?_
    refine CD.wk (Wk.giveNil (t := 5) (sz := 1) lk) ?_
    refine CD.ret ?_
    refine ⟨.inr rfl, _, [], List.nil_sublist _, ret_three Tryz.results10 (res_tmp (Nat.le_of_ble_eq_true rfl) lk) (res_tmp (Nat.le_of_ble_eq_true rfl) lk) (res_tmp (Nat.le_of_ble_eq_true rfl) lk), ?_⟩
    rw [hres]; exact ⟨rfl, rfl⟩
   ·have hc2' := hc2
    (try simp only [V.cnd, ne_eq] at hc2')
    have h2 : ¬ (kindR l ops).2 ≠ 0 := by simpa using hc2
    obtain ⟨k1, k2, k3⟩ := kind_ok (Classical.not_not.1 h2)
    have hrn := expr_runs1 k2
    obtain ⟨h40, _⟩ := expr_ok k2
    refine CD.skip ?_
    refine CD.seq ?_
    refine sr_ ?_
    refine os_ mv_ ?_
    refine os_ bn_ ?_
    refine os_ mv_ ?_
    refine OD.split (t := 29) lk (fun hg29 => ?_) (fun hg29 => ?_)
    ·have hg29' := hg29; (try simp only [V.cnd, ne_eq] at hg29')
     refine os_ mv_ ?_
     refine os_ bn_ ?_
     refine os_ pkT_ ?_
     refine nm_ [0, 1, 32] ?_
     refine CD.cond ot (fun hc3 => ?_) (fun hc3 => ?_)
     ·have hc3' := hc3
      (try simp only [V.cnd, ne_eq] at hc3')
      have h3 : (kindR l ops).1 ≠ 1 ∧ (kindR l ops).1 ≠ 0 := by simp_all
      have hres : boundsR l ops = (([], []), 4) := by unfold boundsR; rw [if_neg h0, if_neg h1, if_neg h2, if_pos h3]
      refine sr_ ?_
      refine os_ mv_ ?_
      refine os_ mv_ ?_
      refine os_ mv_ ?_
      refine nm_ [4, 5, 6] ?_
      refine CD.wk (Wk.giveNil (t := 4) (sz := 1) lk) ?_
      refine CD.wk (Wk.giveNil (t := 5) (sz := 1) lk) ?_
      refine CD.ret ?_
      refine ⟨.inr rfl, _, [], List.nil_sublist _, ret_three Tryz.results10 (res_tmp (Nat.le_of_ble_eq_true rfl) lk) (res_tmp (Nat.le_of_ble_eq_true rfl) lk) (res_tmp (Nat.le_of_ble_eq_true rfl) lk), ?_⟩
      rw [hres]; exact ⟨rfl, rfl⟩
     ·have hc3' := hc3
      (try simp only [V.cnd, ne_eq] at hc3')
      have h3 : ¬ ((kindR l ops).1 ≠ 1 ∧ (kindR l ops).1 ≠ 0) := by simp_all
      have hres : boundsR l ops = (narF l[0].n ops.length ops ([], []), 0) := by unfold boundsR; rw [if_neg h0, if_neg h1, if_neg h2, if_neg h3, List.getD_eq_getElem?_getD, List.getElem?_eq_getElem h0p]; rfl
      refine CD.skip ?_
      refine sr_ ?_
      refine OD.still (wants_plain rfl) rfl (still_bld (pl := []) (ds := [_, _]) rfl Tryz.zeroValue58 Tryz.runUnderlying58 places58_Ex8 trivial rfl rfl) ?_
      refine OD.box (ds := [_, _]) (wants_plain rfl) rfl rfl ot rfl rfl (fun b34 => ?_)
      refine OD.wk (Wk.nil2 (k := 0) (sz := 1) (sz' := 1) rfl) ?_
      refine os_ mv_ ?_
      refine OD.wk (Wk.as_ (n := 50) (l' := [(0, _), (1, _), (9, _)]) (S' := [⟨b34, 58, 2, [_, _]⟩]) rfl rfl ⟨lk, lk, lk, trivial⟩) ?_
      refine OD.nil ?_
      refine sr_ ?_
      refine os_ mv_ ?_
      refine os_ mv_ ?_
      refine OD.still (wants_plain rfl) rfl (still_r2 (mk := Op.indexAddr 30) rfl ot opd_const (by first | exact ix_list Tryz.runUnderlying30 Tryz.sizeOf33 (j := 0) rfl h0p | exact ix_row Tryz.runUnderlying30 Tryz.sizeOf33 (j := 0) rfl h0p)) ?_
      refine os_ (fa_ 0) ?_
      refine os_ ld_ ?_
      refine os_ mv_ ?_
      refine OD.call (wants_plain rfl) rfl rfl rfl Tryz.call21 (nar_vc hG l[0].n ops.length h40 ops [] [] (Nat.le_refl _) hrn hok (Nat.zero_le _) (Nat.zero_le _) b34) ⟨ot, ot, ot, trivial⟩ (perm_one (k := 0) rfl) ?_
      rintro _ _ ⟨rfl, rfl⟩
      refine OD.wk (Wk.as_ (n := 50) (l' := [(9, _)]) (S' := [⟨b34, 58, 2, [_, _]⟩]) rfl rfl ⟨lk, trivial⟩) ?_
      refine OD.nil ?_
      refine CD.seq ?_
      refine CD.draw (bks _) (by kernel_rfl) (fun _ h => h) ?_
      refine AD0.take (i := 0) rfl (by kernel_rfl) (by kernel_rfl) (by kernel_rfl) (by repeat (first | exact NP.body | apply NP.then | apply NP.cut | apply NP.inBlock | apply NP.round)) (wants_plain rfl) rfl (still_mv rfl ot) (by exact trivial) ?_
      refine AD0.take (i := 1) rfl (by kernel_rfl) (by kernel_rfl) (by kernel_rfl) (by repeat (first | exact NP.body | apply NP.then | apply NP.cut | apply NP.inBlock | apply NP.round)) (wants_plain rfl) rfl (still_r1 (mk := Op.nilCheck) rfl ot (by first | exact nc_ptr | exact nc_iptr)) (by exact trivial) ?_
      refine AD0.take (i := 2) rfl (by kernel_rfl) (by kernel_rfl) (by kernel_rfl) (by repeat (first | exact NP.body | apply NP.then | apply NP.cut | apply NP.inBlock | apply NP.round)) (wants_plain rfl) rfl (still_r1 (mk := fun y => Op.fieldAddr 58 y 0) rfl ot (by first | exact fa_ptr (off := 0) Tryz.runUnderlying58 rfl Tryz.sizeOf39 rfl | exact fa_iptr (off := 0) Tryz.runUnderlying58 rfl Tryz.sizeOf39 rfl)) (by exact trivial) ?_
      refine AD0.take (i := 3) rfl (by kernel_rfl) (by kernel_rfl) (by kernel_rfl) (by repeat (first | exact NP.body | apply NP.then | apply NP.cut | apply NP.inBlock | apply NP.round)) (wants_plain rfl) rfl (still_r1 (mk := Op.load 39) rfl ot (by first | exact ld_blk (k := 0) rfl rfl Tryz.isAgg39 rfl | exact ld_fm cC_len Tryz.isAgg39 (by first | assumption | omega) rfl | exact ld_fm0 cC_len Tryz.isAgg39 (by first | assumption | omega) rfl | exact ld_row (k := 0) cC_len rfl rfl rfl Tryz.isAgg39 (by first | assumption | omega) rfl | exact ld_row0 (k := 0) cC_len rfl rfl rfl Tryz.isAgg39 (by first | assumption | omega) rfl | exact ld_i Tryz.isAgg39 rfl)) (by first | exact trivial | exact safe_blk (k0 := 0) rfl rfl) ?_
      refine AD0.take (i := 4) rfl (by kernel_rfl) (by kernel_rfl) (by kernel_rfl) (by repeat (first | exact NP.body | apply NP.then | apply NP.cut | apply NP.inBlock | apply NP.round)) (wants_plain rfl) rfl (still_mv rfl ot) (by exact trivial) ?_
      refine AD0.take (i := 5) rfl (by kernel_rfl) (by kernel_rfl) (by kernel_rfl) (by repeat (first | exact NP.body | apply NP.then | apply NP.cut | apply NP.inBlock | apply NP.round)) (wants_plain rfl) rfl (still_r1 (mk := Op.nilCheck) rfl ot (by first | exact nc_ptr | exact nc_iptr)) (by exact trivial) ?_
      refine AD0.take (i := 6) rfl (by kernel_rfl) (by kernel_rfl) (by kernel_rfl) (by repeat (first | exact NP.body | apply NP.then | apply NP.cut | apply NP.inBlock | apply NP.round)) (wants_plain rfl) rfl (still_r1 (mk := fun y => Op.fieldAddr 58 y 1) rfl ot (by first | exact fa_ptr (off := 1) Tryz.runUnderlying58 rfl Tryz.sizeOf39 rfl | exact fa_iptr (off := 1) Tryz.runUnderlying58 rfl Tryz.sizeOf39 rfl)) (by exact trivial) ?_
      refine AD0.take (i := 7) rfl (by kernel_rfl) (by kernel_rfl) (by kernel_rfl) (by repeat (first | exact NP.body | apply NP.then | apply NP.cut | apply NP.inBlock | apply NP.round)) (wants_plain rfl) rfl (still_r1 (mk := Op.load 39) rfl ot (by first | exact ld_blk (k := 0) rfl rfl Tryz.isAgg39 rfl | exact ld_fm cC_len Tryz.isAgg39 (by first | assumption | omega) rfl | exact ld_fm0 cC_len Tryz.isAgg39 (by first | assumption | omega) rfl | exact ld_row (k := 0) cC_len rfl rfl rfl Tryz.isAgg39 (by first | assumption | omega) rfl | exact ld_row0 (k := 0) cC_len rfl rfl rfl Tryz.isAgg39 (by first | assumption | omega) rfl | exact ld_i Tryz.isAgg39 rfl)) (by first | exact trivial | exact safe_blk (k0 := 0) rfl rfl) ?_
      refine AD0.take (i := 8) rfl (by kernel_rfl) (by kernel_rfl) (by kernel_rfl) (by repeat (first | exact NP.body | apply NP.then | apply NP.cut | apply NP.inBlock | apply NP.round)) (wants_plain rfl) rfl (still_as rfl ot) (by exact trivial) ?_
      refine AD0.take (i := 9) rfl (by kernel_rfl) (by kernel_rfl) (by kernel_rfl) (by repeat (first | exact NP.body | apply NP.then | apply NP.cut | apply NP.inBlock | apply NP.round)) (wants_plain rfl) rfl (still_as rfl ot) (by exact trivial) ?_
      refine AD0.take (i := 10) rfl (by kernel_rfl) (by kernel_rfl) (by kernel_rfl) (by repeat (first | exact NP.body | apply NP.then | apply NP.cut | apply NP.inBlock | apply NP.round)) (wants_plain rfl) rfl (still_as rfl opd_const) (by exact trivial) ?_
      refine AD0.later rfl ?_
      refine AD.wk (y := ⟨50, [(4, _), (5, _), (6, _)], [⟨b34, 58, 2, [_, _]⟩]⟩) (Wk.as_ rfl rfl ⟨lk, lk, lk, trivial⟩) rfl ?_
      refine AD.done (by kernel_rfl) ?_
      refine CD.ret ?_
      refine ⟨.inr rfl, _, [], List.nil_sublist _, ret_three Tryz.results10 (res_tmp (Nat.le_of_ble_eq_true rfl) lk) (res_tmp (Nat.le_of_ble_eq_true rfl) lk) (res_tmp (Nat.le_of_ble_eq_true rfl) lk), ?_⟩
      rw [hres]; exact ⟨rfl, rfl⟩
    ·have hg29' := hg29; (try simp only [V.cnd, ne_eq] at hg29')
     refine sk_ ?_
     refine sk_ ?_
     refine os_ pkF_ ?_
     refine nm_ [0, 1, 32] ?_
     refine CD.condF ot (by first | rfl | assumption) ?_
     have h3 : ¬ ((kindR l ops).1 ≠ 1 ∧ (kindR l ops).1 ≠ 0) := by simp_all
     have hres : boundsR l ops = (narF l[0].n ops.length ops ([], []), 0) := by unfold boundsR; rw [if_neg h0, if_neg h1, if_neg h2, if_neg h3, List.getD_eq_getElem?_getD, List.getElem?_eq_getElem h0p]; rfl
     refine CD.skip ?_
     refine sr_ ?_
     refine OD.still (wants_plain rfl) rfl (still_bld (pl := []) (ds := [_, _]) rfl Tryz.zeroValue58 Tryz.runUnderlying58 places58_Ex8 trivial rfl rfl) ?_
     refine OD.box (ds := [_, _]) (wants_plain rfl) rfl rfl ot rfl rfl (fun b34 => ?_)
     refine OD.wk (Wk.nil2 (k := 0) (sz := 1) (sz' := 1) rfl) ?_
     refine os_ mv_ ?_
     refine OD.wk (Wk.as_ (n := 50) (l' := [(0, _), (1, _), (9, _)]) (S' := [⟨b34, 58, 2, [_, _]⟩]) rfl rfl ⟨lk, lk, lk, trivial⟩) ?_
     refine OD.nil ?_
     refine sr_ ?_
     refine os_ mv_ ?_
     refine os_ mv_ ?_
     refine OD.still (wants_plain rfl) rfl (still_r2 (mk := Op.indexAddr 30) rfl ot opd_const (by first | exact ix_list Tryz.runUnderlying30 Tryz.sizeOf33 (j := 0) rfl h0p | exact ix_row Tryz.runUnderlying30 Tryz.sizeOf33 (j := 0) rfl h0p)) ?_
     refine os_ (fa_ 0) ?_
     refine os_ ld_ ?_
     refine os_ mv_ ?_
     refine OD.call (wants_plain rfl) rfl rfl rfl Tryz.call21 (nar_vc hG l[0].n ops.length h40 ops [] [] (Nat.le_refl _) hrn hok (Nat.zero_le _) (Nat.zero_le _) b34) ⟨ot, ot, ot, trivial⟩ (perm_one (k := 0) rfl) ?_
     rintro _ _ ⟨rfl, rfl⟩
     refine OD.wk (Wk.as_ (n := 50) (l' := [(9, _)]) (S' := [⟨b34, 58, 2, [_, _]⟩]) rfl rfl ⟨lk, trivial⟩) ?_
     refine OD.nil ?_
     refine CD.seq ?_
     refine CD.draw (bks _) (by kernel_rfl) (fun _ h => h) ?_
     refine AD0.take (i := 0) rfl (by kernel_rfl) (by kernel_rfl) (by kernel_rfl) (by repeat (first | exact NP.body | apply NP.then | apply NP.cut | apply NP.inBlock | apply NP.round)) (wants_plain rfl) rfl (still_mv rfl ot) (by exact trivial) ?_
     refine AD0.take (i := 1) rfl (by kernel_rfl) (by kernel_rfl) (by kernel_rfl) (by repeat (first | exact NP.body | apply NP.then | apply NP.cut | apply NP.inBlock | apply NP.round)) (wants_plain rfl) rfl (still_r1 (mk := Op.nilCheck) rfl ot (by first | exact nc_ptr | exact nc_iptr)) (by exact trivial) ?_
     refine AD0.take (i := 2) rfl (by kernel_rfl) (by kernel_rfl) (by kernel_rfl) (by repeat (first | exact NP.body | apply NP.then | apply NP.cut | apply NP.inBlock | apply NP.round)) (wants_plain rfl) rfl (still_r1 (mk := fun y => Op.fieldAddr 58 y 0) rfl ot (by first | exact fa_ptr (off := 0) Tryz.runUnderlying58 rfl Tryz.sizeOf39 rfl | exact fa_iptr (off := 0) Tryz.runUnderlying58 rfl Tryz.sizeOf39 rfl)) (by exact trivial) ?_
     refine AD0.take (i := 3) rfl (by kernel_rfl) (by kernel_rfl) (by kernel_rfl) (by repeat (first | exact NP.body | apply NP.then | apply NP.cut | apply NP.inBlock | apply NP.round)) (wants_plain rfl) rfl (still_r1 (mk := Op.load 39) rfl ot (by first | exact ld_blk (k := 0) rfl rfl Tryz.isAgg39 rfl | exact ld_fm cC_len Tryz.isAgg39 (by first | assumption | omega) rfl | exact ld_fm0 cC_len Tryz.isAgg39 (by first | assumption | omega) rfl | exact ld_row (k := 0) cC_len rfl rfl rfl Tryz.isAgg39 (by first | assumption | omega) rfl | exact ld_row0 (k := 0) cC_len rfl rfl rfl Tryz.isAgg39 (by first | assumption | omega) rfl | exact ld_i Tryz.isAgg39 rfl)) (by first | exact trivial | exact safe_blk (k0 := 0) rfl rfl) ?_
     refine AD0.take (i := 4) rfl (by kernel_rfl) (by kernel_rfl) (by kernel_rfl) (by repeat (first | exact NP.body | apply NP.then | apply NP.cut | apply NP.inBlock | apply NP.round)) (wants_plain rfl) rfl (still_mv rfl ot) (by exact trivial) ?_
     refine AD0.take (i := 5) rfl (by kernel_rfl) (by kernel_rfl) (by kernel_rfl) (by repeat (first | exact NP.body | apply NP.then | apply NP.cut | apply NP.inBlock | apply NP.round)) (wants_plain rfl) rfl (still_r1 (mk := Op.nilCheck) rfl ot (by first | exact nc_ptr | exact nc_iptr)) (by exact trivial) ?_
     refine AD0.take (i := 6) rfl (by kernel_rfl) (by kernel_rfl) (by kernel_rfl) (by repeat (first | exact NP.body | apply NP.then | apply NP.cut | apply NP.inBlock | apply NP.round)) (wants_plain rfl) rfl (still_r1 (mk := fun y => Op.fieldAddr 58 y 1) rfl ot (by first | exact fa_ptr (off := 1) Tryz.runUnderlying58 rfl Tryz.sizeOf39 rfl | exact fa_iptr (off := 1) Tryz.runUnderlying58 rfl Tryz.sizeOf39 rfl)) (by exact trivial) ?_
     refine AD0.take (i := 7) rfl (by kernel_rfl) (by kernel_rfl) (by kernel_rfl) (by repeat (first | exact NP.body | apply NP.then | apply NP.cut | apply NP.inBlock | apply NP.round)) (wants_plain rfl) rfl (still_r1 (mk := Op.load 39) rfl ot (by first | exact ld_blk (k := 0) rfl rfl Tryz.isAgg39 rfl | exact ld_fm cC_len Tryz.isAgg39 (by first | assumption | omega) rfl | exact ld_fm0 cC_len Tryz.isAgg39 (by first | assumption | omega) rfl | exact ld_row (k := 0) cC_len rfl rfl rfl Tryz.isAgg39 (by first | assumption | omega) rfl | exact ld_row0 (k := 0) cC_len rfl rfl rfl Tryz.isAgg39 (by first | assumption | omega) rfl | exact ld_i Tryz.isAgg39 rfl)) (by first | exact trivial | exact safe_blk (k0 := 0) rfl rfl) ?_
     refine AD0.take (i := 8) rfl (by kernel_rfl) (by kernel_rfl) (by kernel_rfl) (by repeat (first | exact NP.body | apply NP.then | apply NP.cut | apply NP.inBlock | apply NP.round)) (wants_plain rfl) rfl (still_as rfl ot) (by exact trivial) ?_
     refine AD0.take (i := 9) rfl (by kernel_rfl) (by kernel_rfl) (by kernel_rfl) (by repeat (first | exact NP.body | apply NP.then | apply NP.cut | apply NP.inBlock | apply NP.round)) (wants_plain rfl) rfl (still_as rfl ot) (by exact trivial) ?_
     refine AD0.take (i := 10) rfl (by kernel_rfl) (by kernel_rfl) (by kernel_rfl) (by repeat (first | exact NP.body | apply NP.then | apply NP.cut | apply NP.inBlock | apply NP.round)) (wants_plain rfl) rfl (still_as rfl opd_const) (by exact trivial) ?_
     refine AD0.later rfl ?_
     refine AD.wk (y := ⟨50, [(4, _), (5, _), (6, _)], [⟨b34, 58, 2, [_, _]⟩]⟩) (Wk.as_ rfl rfl ⟨lk, lk, lk, trivial⟩) rfl ?_
     refine AD.done (by kernel_rfl) ?_
     refine CD.ret ?_
     refine ⟨.inr rfl, _, [], List.nil_sublist _, ret_three Tryz.results10 (res_tmp (Nat.le_of_ble_eq_true rfl) lk) (res_tmp (Nat.le_of_ble_eq_true rfl) lk) (res_tmp (Nat.le_of_ble_eq_true rfl) lk), ?_⟩
     rw [hres]; exact ⟨rfl, rfl⟩

end Go.Proofs.YtfooincnmobemaaGreatDoor.Ex

namespace Go.Proofs.YtfooincnmobemaaGreatDoor.Ex
open Go.RowKit V Pk Vl Go.Proofs.YtfooincnmobemaaGreatDoor.Nm Go.Proofs.YtfooincnmobemaaGreatDoor.Pc Go.Proofs.YtfooincnmobemaaGreatDoor.Cd
set_option linter.unusedVariables false
set_option linter.unusedSimpArgs false

open Go.Lib (compareBytes)
def idB : ByteArray := ⟨#[105, 100]⟩
end Go.Proofs.YtfooincnmobemaaGreatDoor.Ex

namespace Go.Proofs.YtfooincnmobemaaGreatDoor.Ex
open Go.RowKit V Pk Vl Go.Proofs.YtfooincnmobemaaGreatDoor.Nm Go.Proofs.YtfooincnmobemaaGreatDoor.Pc Go.Proofs.YtfooincnmobemaaGreatDoor.Cd
set_option linter.unusedVariables false
set_option linter.unusedSimpArgs false

variable {G : List (Nat × List Value)}
def FineO (o : OpL) : Prop := o.nm.size ≤ maxLen ∧ o.v.Ok
theorem fine_nil : ∀ o ∈ ([] : List OpL), FineO o := fun o h => by cases h
theorem fine_cons {o : OpL} {r : List OpL} (h : FineO o) (hr : ∀ o ∈ r, FineO o) : ∀ x ∈ o :: r, FineO x := fun x hx => by
 rcases List.mem_cons.1 hx with rfl | hx
 ·exact h
 ·exact hr x hx
theorem Bounds_at {m : Int} (hm : (3, marksC) ∈ G) (hw : (0, wordsC) ∈ G) (ht : (1, typesC) ∈ G) (hG : (2, [Value.int .i64 m]) ∈ G) (ops : List OpL) (hf : ∀ o ∈ ops, FineO o) : VP Tryz.prog G 10 [.list 2 (colsL.flatMap cC) colsL.length, .list 5 (ops.flatMap cO) ops.length] (bdD (boundsR colsL ops)) :=
 Bounds_vp hm hw ht hG colsL (by decide) cols_sz ops (fun o h => (hf o h).1) (fun o h => (hf o h).2)
def TGM (m : Int) : List (Nat × List Value) := [(3, marksC), (0, wordsC), (1, typesC), (2, [Value.int .i64 m])]
theorem tm1 {m : Int} : (3, marksC) ∈ TGM m := List.mem_cons_self
theorem tm2 {m : Int} : (0, wordsC) ∈ TGM m := List.mem_cons_of_mem _ List.mem_cons_self
theorem tm3 {m : Int} : (1, typesC) ∈ TGM m := List.mem_cons_of_mem _ (List.mem_cons_of_mem _ List.mem_cons_self)
theorem tm4 {m : Int} : (2, [Value.int .i64 m]) ∈ TGM m := List.mem_cons_of_mem _ (List.mem_cons_of_mem _ (List.mem_cons_of_mem _ List.mem_cons_self))
theorem tgmx {w : World} {m : Int} (h1 : MarksTab w) (h2 : WordsTab w) (h3 : TypesTab w) (h4 : Tab.TabAt w 2 [Value.int .i64 m]) : ∀ g ∈ TGM m, g.2 ≠ [] ∧ TabX w g.1 g.2 := fun g hg => by
 simp only [TGM, List.mem_cons, List.not_mem_nil, or_false] at hg
 rcases hg with rfl | rfl | rfl | rfl
 ·exact ⟨by decide, .of h1 rfl⟩
 ·exact ⟨by decide, .of h2 rfl⟩
 ·exact ⟨by decide, .of h3 rfl⟩
 ·exact ⟨by simp, .of h4 rfl⟩



end Go.Proofs.YtfooincnmobemaaGreatDoor.Ex

namespace Go.Proofs.YtfooincnmobemaaGreatDoor.Ex
end Go.Proofs.YtfooincnmobemaaGreatDoor.Ex


namespace Go.Proofs.YtfooincnmobemaaGreatDoor.V
open Go.RowKit
set_option linter.unusedVariables false
set_option linter.unusedSimpArgs false

variable {P : Program} {C : Ctx} {G : List (Nat × List Value)} {Q : Exit → St → Prop} {x : St} {ops : Array Oper} {l : List Oper} {o : Oper} {S1 T : List Nat} {fuel i : Nat} {ld : Array Bool}

/-- A contract for arguments that read one way holds where they read another. -/
theorem VC.args {f : FuncId} {cs bs : List D} {S : List Blk} {post : D → List Blk → Prop} (h : VC P G f cs S post) (hl : bs.length = cs.length) (hr : ∀ (w : World) (L : Nat → Prop) (i : Nat) (h1 : i < cs.length) (h2 : i < bs.length) (v : Value), Rep w L bs[i] v → Rep w L cs[i] v) : VC P G f bs S post := fun X w vs hp => by
  refine h X w vs ⟨hp.ex, hp.tab, hp.own, ?_, fun i h1 h2 => ?_⟩
  · rw [hp.args.1, hl]
  · exact hr w _ i h1 (by omega) _ (hp.args.2 i (by omega) h2)
end Go.Proofs.YtfooincnmobemaaGreatDoor.V

namespace Go.Proofs.YtfooincnmobemaaGreatDoor.Ex
open Go.RowKit V Pk Vl Go.Proofs.YtfooincnmobemaaGreatDoor.Nm Go.Proofs.YtfooincnmobemaaGreatDoor.Pc Go.Proofs.YtfooincnmobemaaGreatDoor.Cd
set_option linter.unusedVariables false
set_option linter.unusedSimpArgs false

open Go.Lib (compareBytes)
variable {G : List (Nat × List Value)}

def oneO (nm : ByteArray) : OpL := ⟨2, noVl, nm⟩
def nonB : ByteArray := ⟨#[110, 111, 110, 101]⟩
theorem at_none : colAt colsL nonB = -1 := by decide +kernel
theorem nm_none : nameF nonB = 0 := small_name (l := [110, 111, 110, 101]) (by decide) (by decide) (by decide)
theorem expr_one' {nm : ByteArray} (h : nameF nm = 0) : exprF [oneO nm] = 0 := by
 have : opErr 0 (oneO nm) = 0 := by unfold opErr oneO; simp [lit_noVl, zero_noVl, h, popsF]
 unfold exprF
 rw [if_neg (by simp), exprL, if_pos this]; rfl
theorem kind_one {nm : ByteArray} (h : nameF nm = 0) : kindR colsL [oneO nm] = kindAt colsL nm := by
 have hm : ∀ x y : Int, madeF colsL (oneO nm) x y = kindAt colsL nm := fun x y => by unfold madeF; rw [if_neg (show ¬ (oneO nm).k = 1 by show ¬ (2 : Int) = 1; decide), if_pos (show (oneO nm).k = 2 from rfl)]; rfl
 unfold kindR; rw [if_neg (by simp [cols_ok]), if_neg (by simp [expr_one' h])]
 show foldG 0 (madeF colsL) [oneO nm] [] = _
 by_cases hz : (kindAt colsL nm).2 = 0
 ·rw [cons_ok (by rw [hm]; exact hz), hm]
  show ((kindAt colsL nm).1, (0 : Int)) = _
  rw [← hz]
 ·rw [cons_bad (by rw [hm]; exact hz), hm]
  have : (kindAt colsL nm).1 = 0 := by
   unfold kindAt at hz ⊢
   split
   ·rfl
   ·rename_i c; rw [if_neg c] at hz; exact absurd rfl hz
  exact Prod.ext this.symm rfl
theorem eval_one' (a b : Int) (s : ByteArray) (c : Int) {nm : ByteArray} (h : nameF nm = 0) {j : Nat} (hj : colAt colsL nm = j) : evalR colsL (rowL a b s c) [oneO nm] = ((rowL a b s c).getD j noVl, 0) := by
 have he : ∀ x y : Vl, evalF colsL (rowL a b s c) (oneO nm) x y = ((rowL a b s c).getD j noVl, 0) := fun x y => by
  unfold evalF; rw [if_neg (show ¬ popsF (oneO nm).k = 1 by show ¬ (0 : Int) = 1; decide), if_neg (show ¬ popsF (oneO nm).k = 2 by show ¬ (0 : Int) = 2; decide), if_pos (show (oneO nm).k = 2 from rfl), show (oneO nm).nm = nm from rfl, hj]; rfl
 unfold evalR
 rw [if_neg (by simp [(row_good a b s c).1]), kind_one h, if_neg (by unfold kindAt; rw [if_neg (by omega)]; simp)]
 show foldG noVl (evalF colsL (rowL a b s c)) [oneO nm] [] = _
 rw [cons_ok (by rw [he]), he]; rfl
theorem eval_none (a b : Int) (s : ByteArray) (c : Int) : evalR colsL (rowL a b s c) [oneO nonB] = (noVl, 8) := by
 unfold evalR
 rw [if_neg (by simp [(row_good a b s c).1]), kind_one nm_none, show kindAt colsL nonB = (0, 8) by unfold kindAt; rw [at_none]; rfl, if_pos (by simp)]
theorem bounds_one : boundsR colsL [oneO idB] = (([], []), 4) := by
 unfold boundsR
 rw [if_neg (by simp [cols_ok]), if_neg (by simp), kind_one (show nameF idB = 0 from nm_id), show kindAt colsL idB = (2, 0) by unfold kindAt; rw [show colAt colsL idB = 0 from at_id]; rfl, if_neg (by simp), if_pos (by simp)]
theorem fine_one {nm : ByteArray} (h : nm.size ≤ maxLen) : ∀ o ∈ [oneO nm], FineO o := fine_cons ⟨h, ok_no⟩ fine_nil
theorem Eval_one {m : Int} (hm : (3, marksC) ∈ G) (hw : (0, wordsC) ∈ G) (ht : (1, typesC) ∈ G) (hG : (2, [Value.int .i64 m]) ∈ G) (a b : Int) (s : ByteArray) (c : Int) (nm : ByteArray) (h : nm.size ≤ maxLen) : VP Tryz.prog G 7 [.list 2 (colsL.flatMap cC) colsL.length, .list 3 ((rowL a b s c).flatMap cV) (rowL a b s c).length, .list 5 ([oneO nm].flatMap cO) [oneO nm].length] (vlD (evalR colsL (rowL a b s c) [oneO nm])) :=
 Eval_vp hm hw ht colsL (by decide) cols_sz (rowL a b s c) (by rw [rowL_len]; decide) (row_ok a b s c) [oneO nm] (fun o ho => (fine_one h o ho).1) (fun o ho => (fine_one h o ho).2)
theorem Kind_one {m : Int} (hm : (3, marksC) ∈ G) (hw : (0, wordsC) ∈ G) (ht : (1, typesC) ∈ G) (hG : (2, [Value.int .i64 m]) ∈ G) (nm : ByteArray) (h : nm.size ≤ maxLen) : VP Tryz.prog G 9 [.list 2 (colsL.flatMap cC) colsL.length, .list 5 ([oneO nm].flatMap cO) [oneO nm].length] (twoI (kindR colsL [oneO nm])) :=
 kind_vp hm hw ht colsL (by decide) cols_sz [oneO nm] (fun o ho => (fine_one h o ho).1)

theorem places35_Exe : ∀ w, ((#[{ name := "Kind", type := 3, offset := 0, embedded := false, tag := "", pkgPath := "", byteOffset := 0 }, { name := "Value", type := 26, offset := 1, embedded := false, tag := "", pkgPath := "", byteOffset := 8 }, { name := "Name", type := 9, offset := 4, embedded := false, tag := "", pkgPath := "", byteOffset := 40 }] : Array Field).mapM fun f => do pure (f.offset, ← sizeOf f.type) : Sem (Array (Nat × Nat))).run Tryz.prog w = .ok #[(0, 1), (1, 3), (4, 1)] w := fun w => by simp [Tryz.sizeOf26, Tryz.sizeOf3, Tryz.sizeOf9]

set_option maxHeartbeats 4000000 in
set_option maxRecDepth 100000 in
theorem col0_vp {m : Int} (hm : (3, marksC) ∈ G) (hw : (0, wordsC) ∈ G) (ht : (1, typesC) ∈ G) (hG : (2, [Value.int .i64 m]) ∈ G) (a : Int) (a1 : -9223372036854775808 ≤ a) (a2 : a ≤ 9223372036854775807) (b : Int) (b1 : -9223372036854775808 ≤ b) (b2 : b ≤ 9223372036854775807) (s : ByteArray) (hs : s.size ≤ maxLen) (c : Int) (c1 : -9223372036854775808 ≤ c) (c2 : c ≤ 9223372036854775807) (p : Int) (p1 : -9223372036854775808 ≤ p) (p2 : p ≤ 9223372036854775807) (hk : pickedF p 4 = 0) : VP Tryz.prog G 3 [.v (.int .i64 a), .v (.int .i64 b), .v (.string s), .v (.int .i64 c), .v (.int .i64 p)] (.v (.bool true)) := by
 refine VC.body Tryz.func3 rfl Tryz.ntmps3 (Nat.le_of_ble_eq_true rfl) fun X0 w0 S00 => ?_
 have hk1 := kind_one nm_id
 rw [show kindAt colsL ⟨#[105, 100]⟩ = (2, 0) by unfold kindAt; rw [at_id]; rfl] at hk1
 have hkv := Kind_one hm hw ht hG ⟨#[105, 100]⟩ (by decide)
 rw [hk1] at hkv
 have hev := Eval_one hm hw ht hG a b s c ⟨#[105, 100]⟩ (by decide)
 rw [eval_one' a b s c nm_id (j := 0) at_id] at hev
 have hen := Eval_one hm hw ht hG a b s c nonB (by decide)
 rw [eval_none] at hen
 have hbv := Bounds_at hm hw ht hG [oneO idB] (fine_one (by decide))
 rw [bounds_one] at hbv
 have hpk := picked_vp G p 4 p1 p2 (by decide)
 rw [hk] at hpk
 unfold vlD at hev hen
 unfold twoI at hkv
 unfold bdD bytesL at hbv
 dsimp only at hev hen hkv hbv
 have hrw : (rowL a b s c).getD 0 noVl = (rowL a b s c)[0]'(by rw [rowL_len]; decide) := rfl
 rw [hrw] at hev
 generalize hvg : (rowL a b s c)[0]'(by rw [rowL_len]; decide) = v at hev
 unfold cV at hev hen
 refine sr_ ?_
 refine os_ mv_ ?_
 refine nm_ [0, 1, 2, 3, 4] ?_
 refine sr_ ?_
 refine os_ mv_ ?_
 refine OD.callP (wants_plain rfl) rfl rfl rfl Tryz.call5 (hpk) ⟨ot, opd_const, trivial⟩ ?_
 refine os_ mv_ ?_
 refine OD.wk (Wk.as_ (n := 101) (l' := [(0, _), (1, _), (2, _), (3, _), (11, _)]) (S' := []) rfl rfl ⟨lk, lk, lk, lk, lk, trivial⟩) ?_
 refine OD.nil ?_
 refine sr_ ?_
 refine os_ mv_ ?_
 refine os_ mv_ ?_
 refine os_ mv_ ?_
 refine os_ mv_ ?_
 refine OD.callP (wants_plain rfl) rfl rfl rfl Tryz.call6 (rowOf_vp a a1 a2 b b1 b2 s hs c c1 c2) ⟨ot, ot, ot, ot, trivial⟩ ?_
 refine os_ mv_ ?_
 refine OD.wk (Wk.as_ (n := 101) (l' := [(11, _), (12, _)]) (S' := []) rfl rfl ⟨lk, lk, trivial⟩) ?_
 refine OD.nil ?_
 refine sr_ ?_
 refine OD.callP (wants_plain rfl) rfl rfl rfl Tryz.call8 (colsOf_vp) trivial ?_
 refine os_ mv_ ?_
 refine OD.callP (wants_plain rfl) rfl rfl rfl Tryz.call8 (colsOf_vp) trivial ?_
 refine os_ mv_ ?_
 refine os_ (ix_ 2 (h := by first | exact .l (j := 0) rfl (by decide) | exact .r (j := 0) rfl (by decide))) ?_
 refine os_ (fa_ 0) ?_
 refine os_ ld_ ?_
 refine OD.still (wants_plain rfl) rfl (still_bld (pl := [(0, _), (2, _)]) (ds := [_, _, _, _, _]) rfl Tryz.zeroValue35 Tryz.runUnderlying35 places35_Exe ⟨rfl, opd_const, rfl, ot, trivial⟩ rfl rfl) ?_
 refine OD.bldS (pl := numD 0 [_]) (zvs := [.int .i64 0, .int .i64 0, .int .i64 0, .string ⟨#[]⟩, .string ⟨#[]⟩]) (ds := [_, _, _, _, _]) (wants_plain rfl) rfl rfl Tryz.zeroValue35 Tryz.runUnderlying36 Tryz.sizeOf35 rfl rfl (by kernel_rfl) ⟨rfl, ot, trivial⟩ (by exact rfl) (fill_full (by exact rfl) (by exact rfl) (by exact rfl)) (fun b38 => ?_)
 refine OD.perm (perm_q11 (S1 := [⟨b38, 35, 1 * 5, List.flatMap cO ([oneO ⟨#[105, 100]⟩])⟩]) (A := [])) ?_
 refine OD.giveL (t := 38) (Sq := [⟨b38, 35, 1 * 5, List.flatMap cO ([oneO ⟨#[105, 100]⟩])⟩]) lk (ownL_row (g := cO) (sz := 5) (e := 35) (ls := [oneO ⟨#[105, 100]⟩]) (Nat.le_refl _) (show 1 ≤ maxLen by decide)) (fm_len cO_len _) (perm_r11 (A := [])) ?_
 refine OD.callP (wants_plain rfl) rfl rfl rfl Tryz.call7 (hev) ⟨ot, ot, ot, trivial⟩ ?_
 refine os_ mv_ ?_
 refine os_ ex_ ?_
 refine os_ ex_ ?_
 refine OD.alloc (ds := [_, _, _]) (wants_plain rfl) rfl rfl Tryz.zeroValue26 rfl (fun b13 => ?_)
 refine OD.store (k := 0) (cs' := [_, _, _]) (wants_plain rfl) rfl rfl ot rfl rfl ot rfl rfl Tryz.sizeOf26 rfl rfl rfl ?_
 refine os_ mv_ ?_
 refine OD.wk (Wk.as_ (n := 101) (l' := [(11, _), (12, _), (13, _), (14, _)]) (S' := [⟨b13, 26, 3, [_, _, _]⟩]) rfl rfl ⟨lk, lk, lk, lk, trivial⟩) ?_
 refine OD.nil ?_
 refine sr_ ?_
 refine OD.callP (wants_plain rfl) rfl rfl rfl Tryz.call8 (colsOf_vp) trivial ?_
 refine OD.callP (wants_plain rfl) rfl rfl rfl Tryz.call8 (colsOf_vp) trivial ?_
 refine os_ mv_ ?_
 refine os_ (ix_ 2 (h := by first | exact .l (j := 0) rfl (by decide) | exact .r (j := 0) rfl (by decide))) ?_
 refine os_ (fa_ 0) ?_
 refine os_ ld_ ?_
 refine OD.still (wants_plain rfl) rfl (still_bld (pl := [(0, _), (2, _)]) (ds := [_, _, _, _, _]) rfl Tryz.zeroValue35 Tryz.runUnderlying35 places35_Exe ⟨rfl, opd_const, rfl, ot, trivial⟩ rfl rfl) ?_
 refine OD.bldS (pl := numD 0 [_]) (zvs := [.int .i64 0, .int .i64 0, .int .i64 0, .string ⟨#[]⟩, .string ⟨#[]⟩]) (ds := [_, _, _, _, _]) (wants_plain rfl) rfl rfl Tryz.zeroValue35 Tryz.runUnderlying36 Tryz.sizeOf35 rfl rfl (by kernel_rfl) ⟨rfl, ot, trivial⟩ (by exact rfl) (fill_full (by exact rfl) (by exact rfl) (by exact rfl)) (fun b50 => ?_)
 refine OD.perm (perm_q11 (S1 := [⟨b50, 35, 1 * 5, List.flatMap cO ([oneO ⟨#[105, 100]⟩])⟩]) (A := [_])) ?_
 refine OD.giveL (t := 50) (Sq := [⟨b50, 35, 1 * 5, List.flatMap cO ([oneO ⟨#[105, 100]⟩])⟩]) lk (ownL_row (g := cO) (sz := 5) (e := 35) (ls := [oneO ⟨#[105, 100]⟩]) (Nat.le_refl _) (show 1 ≤ maxLen by decide)) (fm_len cO_len _) (perm_r11 (A := [_])) ?_
 refine OD.callP (wants_plain rfl) rfl rfl rfl Tryz.call9 (hkv) ⟨ot, ot, trivial⟩ ?_
 refine os_ mv_ ?_
 refine os_ ex_ ?_
 refine os_ ex_ ?_
 refine os_ mv_ ?_
 refine os_ mv_ ?_
 refine OD.wk (Wk.as_ (n := 101) (l' := [(11, _), (12, _), (13, _), (14, _), (15, _), (16, _)]) (S' := [⟨b13, 26, 3, [_, _, _]⟩]) rfl rfl ⟨lk, lk, lk, lk, lk, lk, trivial⟩) ?_
 refine OD.nil ?_
 refine sr_ ?_
 refine OD.callP (wants_plain rfl) rfl rfl rfl Tryz.call8 (colsOf_vp) trivial ?_
 refine os_ mv_ ?_
 refine OD.still (wants_plain rfl) rfl (still_bld (pl := [(0, _), (2, _)]) (ds := [_, _, _, _, _]) rfl Tryz.zeroValue35 Tryz.runUnderlying35 places35_Exe ⟨rfl, opd_const, rfl, opd_const, trivial⟩ rfl rfl) ?_
 refine OD.bldS (pl := numD 0 [_]) (zvs := [.int .i64 0, .int .i64 0, .int .i64 0, .string ⟨#[]⟩, .string ⟨#[]⟩]) (ds := [_, _, _, _, _]) (wants_plain rfl) rfl rfl Tryz.zeroValue35 Tryz.runUnderlying36 Tryz.sizeOf35 rfl rfl (by kernel_rfl) ⟨rfl, ot, trivial⟩ (by exact rfl) (fill_full (by exact rfl) (by exact rfl) (by exact rfl)) (fun b58 => ?_)
 refine OD.perm (perm_q11 (S1 := [⟨b58, 35, 1 * 5, List.flatMap cO ([oneO nonB])⟩]) (A := [_])) ?_
 refine OD.giveL (t := 58) (Sq := [⟨b58, 35, 1 * 5, List.flatMap cO ([oneO nonB])⟩]) lk (ownL_row (g := cO) (sz := 5) (e := 35) (ls := [oneO nonB]) (Nat.le_refl _) (show 1 ≤ maxLen by decide)) (fm_len cO_len _) (perm_r11 (A := [_])) ?_
 refine OD.callP (wants_plain rfl) rfl rfl rfl Tryz.call7 (hen) ⟨ot, ot, ot, trivial⟩ ?_
 refine os_ mv_ ?_
 refine os_ ex_ ?_
 refine os_ ex_ ?_
 refine OD.alloc (ds := [_, _, _]) (wants_plain rfl) rfl rfl Tryz.zeroValue26 rfl (fun b17 => ?_)
 refine OD.store (k := 0) (cs' := [_, _, _]) (wants_plain rfl) rfl rfl ot rfl rfl ot rfl rfl Tryz.sizeOf26 rfl rfl rfl ?_
 refine os_ mv_ ?_
 refine OD.wk (Wk.as_ (n := 101) (l' := [(11, _), (12, _), (13, _), (14, _), (15, _), (16, _), (18, _)]) (S' := [⟨b17, 26, 3, [_, _, _]⟩, ⟨b13, 26, 3, [_, _, _]⟩]) rfl rfl ⟨lk, lk, lk, lk, lk, lk, lk, trivial⟩) ?_
 refine OD.nil ?_
 refine sr_ ?_
 refine OD.callP (wants_plain rfl) rfl rfl rfl Tryz.call8 (colsOf_vp) trivial ?_
 refine OD.still (wants_plain rfl) rfl (still_bld (pl := [(0, _), (2, _)]) (ds := [_, _, _, _, _]) rfl Tryz.zeroValue35 Tryz.runUnderlying35 places35_Exe ⟨rfl, opd_const, rfl, opd_const, trivial⟩ rfl rfl) ?_
 refine OD.bldS (pl := numD 0 [_]) (zvs := [.int .i64 0, .int .i64 0, .int .i64 0, .string ⟨#[]⟩, .string ⟨#[]⟩]) (ds := [_, _, _, _, _]) (wants_plain rfl) rfl rfl Tryz.zeroValue35 Tryz.runUnderlying36 Tryz.sizeOf35 rfl rfl (by kernel_rfl) ⟨rfl, ot, trivial⟩ (by exact rfl) (fill_full (by exact rfl) (by exact rfl) (by exact rfl)) (fun b65 => ?_)
 refine OD.perm (perm_q11 (S1 := [⟨b65, 35, 1 * 5, List.flatMap cO ([oneO idB])⟩]) (A := [_, _])) ?_
 refine OD.giveL (t := 65) (Sq := [⟨b65, 35, 1 * 5, List.flatMap cO ([oneO idB])⟩]) lk (ownL_row (g := cO) (sz := 5) (e := 35) (ls := [oneO idB]) (Nat.le_refl _) (show 1 ≤ maxLen by decide)) (fm_len cO_len _) (perm_r11 (A := [_, _])) ?_
 refine OD.callP (wants_plain rfl) rfl rfl rfl Tryz.call10 (hbv) ⟨ot, ot, trivial⟩ ?_
 refine os_ mv_ ?_
 refine os_ ex_ ?_
 refine os_ ex_ ?_
 refine os_ ex_ ?_
 refine os_ mv_ ?_
 refine os_ mv_ ?_
 refine os_ mv_ ?_
 refine OD.wk (Wk.as_ (n := 101) (l' := [(11, _), (12, _), (13, _), (14, _), (15, _), (16, _), (18, _), (21, _)]) (S' := [⟨b17, 26, 3, [_, _, _]⟩, ⟨b13, 26, 3, [_, _, _]⟩]) rfl rfl ⟨lk, lk, lk, lk, lk, lk, lk, lk, trivial⟩) ?_
 refine OD.nil ?_
 refine CD.seq ?_
 refine CD.draw (bks _) (by kernel_rfl) (fun _ h => h) ?_
 refine AD0.take (i := 0) rfl (by kernel_rfl) (by kernel_rfl) (by kernel_rfl) (by repeat (first | exact NP.body | apply NP.then | apply NP.cut | apply NP.inBlock | apply NP.round)) (wants_plain rfl) rfl (still_mv rfl ot) (by exact trivial) ?_
 refine AD0.take (i := 1) rfl (by kernel_rfl) (by kernel_rfl) (by kernel_rfl) (by repeat (first | exact NP.body | apply NP.then | apply NP.cut | apply NP.inBlock | apply NP.round)) (wants_plain rfl) rfl (still_bin rfl ot opd_const bin_eql) (by exact trivial) ?_
 refine AD0.take (i := 2) rfl (by kernel_rfl) (by kernel_rfl) (by kernel_rfl) (by repeat (first | exact NP.body | apply NP.then | apply NP.cut | apply NP.inBlock | apply NP.round)) (wants_plain rfl) rfl (still_mv rfl ot) (by exact trivial) ?_
 refine AD0.split (t := 72) lk (fun hg72 => ?_) (fun hg72 => ?_)
 ·have hg72' := hg72; (try simp only [V.cnd, ne_eq] at hg72')
  refine AD0.take (i := 3) rfl (by kernel_rfl) (by kernel_rfl) (by kernel_rfl) (by repeat (first | exact NP.body | apply NP.then | apply NP.cut | apply NP.inBlock | apply NP.round)) (wants_T rfl rfl rfl lk (by first | rfl | assumption)) rfl (still_mv rfl ot) (by exact trivial) ?_
  refine AD0.take (i := 4) rfl (by kernel_rfl) (by kernel_rfl) (by kernel_rfl) (by repeat (first | exact NP.body | apply NP.then | apply NP.cut | apply NP.inBlock | apply NP.round)) (wants_T rfl rfl rfl lk (by first | rfl | assumption)) rfl (still_bin rfl ot opd_const bin_eql) (by exact trivial) ?_
  refine AD0.take (i := 5) rfl (by kernel_rfl) (by kernel_rfl) (by kernel_rfl) (by repeat (first | exact NP.body | apply NP.then | apply NP.cut | apply NP.inBlock | apply NP.round)) (wants_plain rfl) rfl (still_pickT rfl ot (by first | rfl | assumption) ot) (by exact trivial) ?_
  refine AD0.take (i := 6) rfl (by kernel_rfl) (by kernel_rfl) (by kernel_rfl) (by repeat (first | exact NP.body | apply NP.then | apply NP.cut | apply NP.inBlock | apply NP.round)) (wants_plain rfl) rfl (still_mv rfl ot) (by exact trivial) ?_
  refine AD0.split (t := 76) lk (fun hg76 => ?_) (fun hg76 => ?_)
  ·have hg76' := hg76; (try simp only [V.cnd, ne_eq] at hg76')
   refine AD0.take (i := 7) rfl (by kernel_rfl) (by kernel_rfl) (by kernel_rfl) (by repeat (first | exact NP.body | apply NP.then | apply NP.cut | apply NP.inBlock | apply NP.round)) (wants_T rfl rfl rfl lk (by first | rfl | assumption)) rfl (still_mv rfl ot) (by exact trivial) ?_
   refine AD0.take (i := 8) rfl (by kernel_rfl) (by kernel_rfl) (by kernel_rfl) (by repeat (first | exact NP.body | apply NP.then | apply NP.cut | apply NP.inBlock | apply NP.round)) (wants_T rfl rfl rfl lk (by first | rfl | assumption)) rfl (still_bin rfl ot opd_const bin_eql) (by exact trivial) ?_
   refine AD0.take (i := 9) rfl (by kernel_rfl) (by kernel_rfl) (by kernel_rfl) (by repeat (first | exact NP.body | apply NP.then | apply NP.cut | apply NP.inBlock | apply NP.round)) (wants_plain rfl) rfl (still_pickT rfl ot (by first | rfl | assumption) ot) (by exact trivial) ?_
   refine AD0.take (i := 10) rfl (by kernel_rfl) (by kernel_rfl) (by kernel_rfl) (by repeat (first | exact NP.body | apply NP.then | apply NP.cut | apply NP.inBlock | apply NP.round)) (wants_plain rfl) rfl (still_mv rfl ot) (by exact trivial) ?_
   refine AD0.split (t := 80) lk (fun hg80 => ?_) (fun hg80 => ?_)
   ·have hg80' := hg80; (try simp only [V.cnd, ne_eq] at hg80')
    refine AD0.take (i := 11) rfl (by kernel_rfl) (by kernel_rfl) (by kernel_rfl) (by repeat (first | exact NP.body | apply NP.then | apply NP.cut | apply NP.inBlock | apply NP.round)) (wants_T rfl rfl rfl lk (by first | rfl | assumption)) rfl (still_mv rfl ot) (by exact trivial) ?_
    refine AD0.take (i := 12) rfl (by kernel_rfl) (by kernel_rfl) (by kernel_rfl) (by repeat (first | exact NP.body | apply NP.then | apply NP.cut | apply NP.inBlock | apply NP.round)) (wants_T rfl rfl rfl lk (by first | rfl | assumption)) rfl (still_bin rfl ot opd_const bin_eql) (by exact trivial) ?_
    refine AD0.take (i := 13) rfl (by kernel_rfl) (by kernel_rfl) (by kernel_rfl) (by repeat (first | exact NP.body | apply NP.then | apply NP.cut | apply NP.inBlock | apply NP.round)) (wants_plain rfl) rfl (still_pickT rfl ot (by first | rfl | assumption) ot) (by exact trivial) ?_
    refine AD0.take (i := 14) rfl (by kernel_rfl) (by kernel_rfl) (by kernel_rfl) (by repeat (first | exact NP.body | apply NP.then | apply NP.cut | apply NP.inBlock | apply NP.round)) (wants_plain rfl) rfl (still_mv rfl ot) (by exact trivial) ?_
    refine AD0.split (t := 84) lk (fun hg84 => ?_) (fun hg84 => ?_)
    ·have hg84' := hg84; (try simp only [V.cnd, ne_eq] at hg84')
     refine AD0.take (i := 15) rfl (by kernel_rfl) (by kernel_rfl) (by kernel_rfl) (by repeat (first | exact NP.body | apply NP.then | apply NP.cut | apply NP.inBlock | apply NP.round)) (wants_T rfl rfl rfl lk (by first | rfl | assumption)) rfl (still_r1 (mk := Op.load 26) rfl ot (by first | exact ld_blks (k := 1) (ds := [_, _, _]) rfl rfl Tryz.isAgg26 Tryz.sizeOf26 rfl rfl | exact ld_fms cC_len Tryz.isAgg26 Tryz.sizeOf26 (by first | assumption | omega) | exact ld_fms cV_len Tryz.isAgg26 Tryz.sizeOf26 (by first | assumption | omega) | exact ld_rows (k := 0) cC_len rfl rfl rfl Tryz.isAgg26 Tryz.sizeOf26 (by first | assumption | omega) | exact ld_rows (k := 1) cC_len rfl rfl rfl Tryz.isAgg26 Tryz.sizeOf26 (by first | assumption | omega) | exact ld_rows (k := 0) cV_len rfl rfl rfl Tryz.isAgg26 Tryz.sizeOf26 (by first | assumption | omega) | exact ld_rows (k := 1) cV_len rfl rfl rfl Tryz.isAgg26 Tryz.sizeOf26 (by first | assumption | omega) | exact ld_is (ds := [_, _, _]) Tryz.isAgg26 Tryz.sizeOf26 rfl rfl)) (by first | exact trivial | exact safe_blk (k0 := 0) rfl rfl | exact safe_blk (k0 := 1) rfl rfl) ?_
     refine AD0.take (i := 16) rfl (by kernel_rfl) (by kernel_rfl) (by kernel_rfl) (by repeat (first | exact NP.body | apply NP.then | apply NP.cut | apply NP.inBlock | apply NP.round)) (wants_T rfl rfl rfl lk (by first | rfl | assumption)) rfl (still_mv rfl ot) (by exact trivial) ?_
     refine AD0.take (i := 17) rfl (by kernel_rfl) (by kernel_rfl) (by kernel_rfl) (by repeat (first | exact NP.body | apply NP.then | apply NP.cut | apply NP.inBlock | apply NP.round)) (wants_T rfl rfl rfl lk (by first | rfl | assumption)) rfl (still_mv rfl ot) (by exact trivial) ?_
     refine AD0.take (i := 18) rfl (by kernel_rfl) (by kernel_rfl) (by kernel_rfl) (by repeat (first | exact NP.body | apply NP.then | apply NP.cut | apply NP.inBlock | apply NP.round)) (wants_T rfl rfl rfl lk (by first | rfl | assumption)) rfl (still_r2 (mk := Op.indexAddr 23) rfl ot ot (by first | exact ix_list Tryz.runUnderlying23 Tryz.sizeOf26 (j := 0) rfl (by rw [rowL_len]; decide) | exact ix_row Tryz.runUnderlying23 Tryz.sizeOf26 (j := 0) rfl (by rw [rowL_len]; decide))) (by exact trivial) ?_
     refine AD0.take (i := 19) rfl (by kernel_rfl) (by kernel_rfl) (by kernel_rfl) (by repeat (first | exact NP.body | apply NP.then | apply NP.cut | apply NP.inBlock | apply NP.round)) (wants_T rfl rfl rfl lk (by first | rfl | assumption)) rfl (still_r1 (mk := Op.load 26) rfl ot (by first | exact ld_blks (k := 0) (ds := [_, _, _]) rfl rfl Tryz.isAgg26 Tryz.sizeOf26 rfl rfl | exact ld_blks (k := 1) (ds := [_, _, _]) rfl rfl Tryz.isAgg26 Tryz.sizeOf26 rfl rfl | exact ld_fms cC_len Tryz.isAgg26 Tryz.sizeOf26 (by first | assumption | omega) | exact ld_fms cV_len Tryz.isAgg26 Tryz.sizeOf26 (by first | assumption | omega) | exact ld_rows (k := 0) cC_len rfl rfl rfl Tryz.isAgg26 Tryz.sizeOf26 (by first | assumption | omega) | exact ld_rows (k := 1) cC_len rfl rfl rfl Tryz.isAgg26 Tryz.sizeOf26 (by first | assumption | omega) | exact ld_rows (k := 0) cV_len rfl rfl rfl Tryz.isAgg26 Tryz.sizeOf26 (by first | assumption | omega) | exact ld_rows (k := 1) cV_len rfl rfl rfl Tryz.isAgg26 Tryz.sizeOf26 (by first | assumption | omega) | exact ld_is (ds := [_, _, _]) Tryz.isAgg26 Tryz.sizeOf26 rfl rfl)) (by first | exact trivial | exact safe_blk (k0 := 0) rfl rfl | exact safe_blk (k0 := 1) rfl rfl) ?_
     refine AD0.take (i := 20) rfl (by kernel_rfl) (by kernel_rfl) (by kernel_rfl) (by repeat (first | exact NP.body | apply NP.then | apply NP.cut | apply NP.inBlock | apply NP.round)) (wants_T rfl rfl rfl lk (by first | rfl | assumption)) rfl (still_eqS (us := [_, _, _]) (us' := [_, _, _]) rfl ot ot Tryz.eqGuardType26 (Vl.eqs26 v _)) (by exact trivial) ?_
     refine AD0.take (i := 21) rfl (by kernel_rfl) (by kernel_rfl) (by kernel_rfl) (by repeat (first | exact NP.body | apply NP.then | apply NP.cut | apply NP.inBlock | apply NP.round)) (wants_plain rfl) rfl (still_pickT rfl ot (by first | rfl | assumption) ot) (by exact trivial) ?_
     refine AD0.take (i := 22) rfl (by kernel_rfl) (by kernel_rfl) (by kernel_rfl) (by repeat (first | exact NP.body | apply NP.then | apply NP.cut | apply NP.inBlock | apply NP.round)) (wants_plain rfl) rfl (still_mv rfl ot) (by exact trivial) ?_
     refine AD0.split (t := 92) lk (fun hg92 => ?_) (fun hg92 => ?_)
     ·have hg92' := hg92; (try simp only [V.cnd, ne_eq] at hg92')
      refine AD0.take (i := 23) rfl (by kernel_rfl) (by kernel_rfl) (by kernel_rfl) (by repeat (first | exact NP.body | apply NP.then | apply NP.cut | apply NP.inBlock | apply NP.round)) (wants_T rfl rfl rfl lk (by first | rfl | assumption)) rfl (still_mv rfl ot) (by exact trivial) ?_
      refine AD0.take (i := 25) rfl (by kernel_rfl) (by kernel_rfl) (by kernel_rfl) (by repeat (first | exact NP.body | apply NP.then | apply NP.cut | apply NP.inBlock | apply NP.round)) (wants_T rfl rfl rfl lk (by first | rfl | assumption)) rfl (still_mv rfl ot) (by exact trivial) ?_
      refine AD0.later rfl ?_
      refine AD.one (i := 24) (by kernel_rfl) ?_
      refine AStep.callP rfl (wants_T rfl rfl rfl lk (by first | rfl | assumption)) rfl rfl rfl Tryz.call8 (colsOf_vp) trivial ?_
      refine AD.take (i := 26) rfl (by kernel_rfl) (by kernel_rfl) (by kernel_rfl) (by repeat (first | exact NP.body | apply NP.then | apply NP.cut | apply NP.inBlock | apply NP.round)) (wants_T rfl rfl rfl lk (by first | rfl | assumption)) rfl (still_r2 (mk := Op.indexAddr 30) rfl ot ot (by first | exact ix_list Tryz.runUnderlying30 Tryz.sizeOf33 (j := 0) rfl (by decide) | exact ix_row Tryz.runUnderlying30 Tryz.sizeOf33 (j := 0) rfl (by decide))) (by exact trivial) (by intro h; cases h) ?_
      refine AD.take (i := 27) rfl (by kernel_rfl) (by kernel_rfl) (by kernel_rfl) (by repeat (first | exact NP.body | apply NP.then | apply NP.cut | apply NP.inBlock | apply NP.round)) (wants_T rfl rfl rfl lk (by first | rfl | assumption)) rfl (still_r1 (mk := fun y => Op.fieldAddr 33 y 1) rfl ot (by first | exact fa_ptr (off := 1) Tryz.runUnderlying33 rfl Tryz.sizeOf3 rfl | exact fa_iptr (off := 1) Tryz.runUnderlying33 rfl Tryz.sizeOf3 rfl)) (by exact trivial) (by intro h; cases h) ?_
      refine AD.one (i := 28) (by kernel_rfl) ?_
      refine AStep.still rfl (wants_T rfl rfl rfl lk (by first | rfl | assumption)) rfl (still_r1 (mk := Op.load 3) rfl ot (by first | exact ld_blk (k := 0) rfl rfl Tryz.isAgg3 rfl | exact ld_blk (k := 1) rfl rfl Tryz.isAgg3 rfl | exact ld_fm cC_len Tryz.isAgg3 (by first | assumption | omega) rfl | exact ld_fm0 cC_len Tryz.isAgg3 (by first | assumption | omega) rfl | exact ld_fm cV_len Tryz.isAgg3 (by first | assumption | omega) rfl | exact ld_fm0 cV_len Tryz.isAgg3 (by first | assumption | omega) rfl | exact ld_row (k := 0) cC_len rfl rfl rfl Tryz.isAgg3 (by first | assumption | omega) rfl | exact ld_row0 (k := 0) cC_len rfl rfl rfl Tryz.isAgg3 (by first | assumption | omega) rfl | exact ld_row (k := 1) cC_len rfl rfl rfl Tryz.isAgg3 (by first | assumption | omega) rfl | exact ld_row0 (k := 1) cC_len rfl rfl rfl Tryz.isAgg3 (by first | assumption | omega) rfl | exact ld_row (k := 0) cV_len rfl rfl rfl Tryz.isAgg3 (by first | assumption | omega) rfl | exact ld_row0 (k := 0) cV_len rfl rfl rfl Tryz.isAgg3 (by first | assumption | omega) rfl | exact ld_row (k := 1) cV_len rfl rfl rfl Tryz.isAgg3 (by first | assumption | omega) rfl | exact ld_row0 (k := 1) cV_len rfl rfl rfl Tryz.isAgg3 (by first | assumption | omega) rfl | exact ld_i Tryz.isAgg3 rfl)) ?_
      refine AD.take (i := 29) rfl (by kernel_rfl) (by kernel_rfl) (by kernel_rfl) (by repeat (first | exact NP.body | apply NP.then | apply NP.cut | apply NP.inBlock | apply NP.round)) (wants_T rfl rfl rfl lk (by first | rfl | assumption)) rfl (still_bin rfl ot ot bin_eql) (by exact trivial) (by intro h; cases h) ?_
      refine AD.take (i := 30) rfl (by kernel_rfl) (by kernel_rfl) (by kernel_rfl) (by repeat (first | exact NP.body | apply NP.then | apply NP.cut | apply NP.inBlock | apply NP.round)) (wants_plain rfl) rfl (still_pickT rfl ot (by first | rfl | assumption) ot) (by exact trivial) (by intro h; cases h) ?_
      refine AD.take (i := 31) rfl (by kernel_rfl) (by kernel_rfl) (by kernel_rfl) (by repeat (first | exact NP.body | apply NP.then | apply NP.cut | apply NP.inBlock | apply NP.round)) (wants_plain rfl) rfl (still_as rfl ot) (by exact trivial) (by intro h; cases h) ?_
      refine AD.wk (y := ⟨101, [(10, _)], [⟨b17, 26, 3, [_, _, _]⟩, ⟨b13, 26, 3, [_, _, _]⟩]⟩) (Wk.as_ rfl rfl ⟨lk, trivial⟩) rfl ?_
      refine AD.done (by kernel_rfl) ?_
      refine CD.ret ?_
      refine ⟨.inr rfl, _, [], List.nil_sublist _, ret_one Tryz.results3 (res_tmp (Nat.le_of_ble_eq_true rfl) lk), ?_⟩
      first | exact ⟨rfl, rfl⟩ | (refine ⟨vb ?_, rfl⟩; simp)
     ·exact absurd hg92 (by simp [hvg]; rw [← hvg]; exact ⟨rfl, rfl, rfl⟩)
    ·exact absurd hg84 (by simp)
   ·exact absurd hg80 (by simp)
  ·exact absurd hg76 (by simp)
 ·exact absurd hg72 (by simp)

set_option maxHeartbeats 4000000 in
set_option maxRecDepth 100000 in
theorem col1_vp {m : Int} (hm : (3, marksC) ∈ G) (hw : (0, wordsC) ∈ G) (ht : (1, typesC) ∈ G) (hG : (2, [Value.int .i64 m]) ∈ G) (a : Int) (a1 : -9223372036854775808 ≤ a) (a2 : a ≤ 9223372036854775807) (b : Int) (b1 : -9223372036854775808 ≤ b) (b2 : b ≤ 9223372036854775807) (s : ByteArray) (hs : s.size ≤ maxLen) (c : Int) (c1 : -9223372036854775808 ≤ c) (c2 : c ≤ 9223372036854775807) (p : Int) (p1 : -9223372036854775808 ≤ p) (p2 : p ≤ 9223372036854775807) (hk : pickedF p 4 = 1) : VP Tryz.prog G 3 [.v (.int .i64 a), .v (.int .i64 b), .v (.string s), .v (.int .i64 c), .v (.int .i64 p)] (.v (.bool true)) := by
 refine VC.body Tryz.func3 rfl Tryz.ntmps3 (Nat.le_of_ble_eq_true rfl) fun X0 w0 S00 => ?_
 have hk1 := kind_one nm_n
 rw [show kindAt colsL ⟨#[110]⟩ = (2, 0) by unfold kindAt; rw [at_n]; rfl] at hk1
 have hkv := Kind_one hm hw ht hG ⟨#[110]⟩ (by decide)
 rw [hk1] at hkv
 have hev := Eval_one hm hw ht hG a b s c ⟨#[110]⟩ (by decide)
 rw [eval_one' a b s c nm_n (j := 1) at_n] at hev
 have hen := Eval_one hm hw ht hG a b s c nonB (by decide)
 rw [eval_none] at hen
 have hbv := Bounds_at hm hw ht hG [oneO idB] (fine_one (by decide))
 rw [bounds_one] at hbv
 have hpk := picked_vp G p 4 p1 p2 (by decide)
 rw [hk] at hpk
 unfold vlD at hev hen
 unfold twoI at hkv
 unfold bdD bytesL at hbv
 dsimp only at hev hen hkv hbv
 have hrw : (rowL a b s c).getD 1 noVl = (rowL a b s c)[1]'(by rw [rowL_len]; decide) := rfl
 rw [hrw] at hev
 generalize hvg : (rowL a b s c)[1]'(by rw [rowL_len]; decide) = v at hev
 unfold cV at hev hen
 refine sr_ ?_
 refine os_ mv_ ?_
 refine nm_ [0, 1, 2, 3, 4] ?_
 refine sr_ ?_
 refine os_ mv_ ?_
 refine OD.callP (wants_plain rfl) rfl rfl rfl Tryz.call5 (hpk) ⟨ot, opd_const, trivial⟩ ?_
 refine os_ mv_ ?_
 refine OD.wk (Wk.as_ (n := 101) (l' := [(0, _), (1, _), (2, _), (3, _), (11, _)]) (S' := []) rfl rfl ⟨lk, lk, lk, lk, lk, trivial⟩) ?_
 refine OD.nil ?_
 refine sr_ ?_
 refine os_ mv_ ?_
 refine os_ mv_ ?_
 refine os_ mv_ ?_
 refine os_ mv_ ?_
 refine OD.callP (wants_plain rfl) rfl rfl rfl Tryz.call6 (rowOf_vp a a1 a2 b b1 b2 s hs c c1 c2) ⟨ot, ot, ot, ot, trivial⟩ ?_
 refine os_ mv_ ?_
 refine OD.wk (Wk.as_ (n := 101) (l' := [(11, _), (12, _)]) (S' := []) rfl rfl ⟨lk, lk, trivial⟩) ?_
 refine OD.nil ?_
 refine sr_ ?_
 refine OD.callP (wants_plain rfl) rfl rfl rfl Tryz.call8 (colsOf_vp) trivial ?_
 refine os_ mv_ ?_
 refine OD.callP (wants_plain rfl) rfl rfl rfl Tryz.call8 (colsOf_vp) trivial ?_
 refine os_ mv_ ?_
 refine os_ (ix_ 2 (h := by first | exact .l (j := 1) rfl (by decide) | exact .r (j := 1) rfl (by decide))) ?_
 refine os_ (fa_ 0) ?_
 refine os_ ld_ ?_
 refine OD.still (wants_plain rfl) rfl (still_bld (pl := [(0, _), (2, _)]) (ds := [_, _, _, _, _]) rfl Tryz.zeroValue35 Tryz.runUnderlying35 places35_Exe ⟨rfl, opd_const, rfl, ot, trivial⟩ rfl rfl) ?_
 refine OD.bldS (pl := numD 0 [_]) (zvs := [.int .i64 0, .int .i64 0, .int .i64 0, .string ⟨#[]⟩, .string ⟨#[]⟩]) (ds := [_, _, _, _, _]) (wants_plain rfl) rfl rfl Tryz.zeroValue35 Tryz.runUnderlying36 Tryz.sizeOf35 rfl rfl (by kernel_rfl) ⟨rfl, ot, trivial⟩ (by exact rfl) (fill_full (by exact rfl) (by exact rfl) (by exact rfl)) (fun b38 => ?_)
 refine OD.perm (perm_q11 (S1 := [⟨b38, 35, 1 * 5, List.flatMap cO ([oneO ⟨#[110]⟩])⟩]) (A := [])) ?_
 refine OD.giveL (t := 38) (Sq := [⟨b38, 35, 1 * 5, List.flatMap cO ([oneO ⟨#[110]⟩])⟩]) lk (ownL_row (g := cO) (sz := 5) (e := 35) (ls := [oneO ⟨#[110]⟩]) (Nat.le_refl _) (show 1 ≤ maxLen by decide)) (fm_len cO_len _) (perm_r11 (A := [])) ?_
 refine OD.callP (wants_plain rfl) rfl rfl rfl Tryz.call7 (hev) ⟨ot, ot, ot, trivial⟩ ?_
 refine os_ mv_ ?_
 refine os_ ex_ ?_
 refine os_ ex_ ?_
 refine OD.alloc (ds := [_, _, _]) (wants_plain rfl) rfl rfl Tryz.zeroValue26 rfl (fun b13 => ?_)
 refine OD.store (k := 0) (cs' := [_, _, _]) (wants_plain rfl) rfl rfl ot rfl rfl ot rfl rfl Tryz.sizeOf26 rfl rfl rfl ?_
 refine os_ mv_ ?_
 refine OD.wk (Wk.as_ (n := 101) (l' := [(11, _), (12, _), (13, _), (14, _)]) (S' := [⟨b13, 26, 3, [_, _, _]⟩]) rfl rfl ⟨lk, lk, lk, lk, trivial⟩) ?_
 refine OD.nil ?_
 refine sr_ ?_
 refine OD.callP (wants_plain rfl) rfl rfl rfl Tryz.call8 (colsOf_vp) trivial ?_
 refine OD.callP (wants_plain rfl) rfl rfl rfl Tryz.call8 (colsOf_vp) trivial ?_
 refine os_ mv_ ?_
 refine os_ (ix_ 2 (h := by first | exact .l (j := 1) rfl (by decide) | exact .r (j := 1) rfl (by decide))) ?_
 refine os_ (fa_ 0) ?_
 refine os_ ld_ ?_
 refine OD.still (wants_plain rfl) rfl (still_bld (pl := [(0, _), (2, _)]) (ds := [_, _, _, _, _]) rfl Tryz.zeroValue35 Tryz.runUnderlying35 places35_Exe ⟨rfl, opd_const, rfl, ot, trivial⟩ rfl rfl) ?_
 refine OD.bldS (pl := numD 0 [_]) (zvs := [.int .i64 0, .int .i64 0, .int .i64 0, .string ⟨#[]⟩, .string ⟨#[]⟩]) (ds := [_, _, _, _, _]) (wants_plain rfl) rfl rfl Tryz.zeroValue35 Tryz.runUnderlying36 Tryz.sizeOf35 rfl rfl (by kernel_rfl) ⟨rfl, ot, trivial⟩ (by exact rfl) (fill_full (by exact rfl) (by exact rfl) (by exact rfl)) (fun b50 => ?_)
 refine OD.perm (perm_q11 (S1 := [⟨b50, 35, 1 * 5, List.flatMap cO ([oneO ⟨#[110]⟩])⟩]) (A := [_])) ?_
 refine OD.giveL (t := 50) (Sq := [⟨b50, 35, 1 * 5, List.flatMap cO ([oneO ⟨#[110]⟩])⟩]) lk (ownL_row (g := cO) (sz := 5) (e := 35) (ls := [oneO ⟨#[110]⟩]) (Nat.le_refl _) (show 1 ≤ maxLen by decide)) (fm_len cO_len _) (perm_r11 (A := [_])) ?_
 refine OD.callP (wants_plain rfl) rfl rfl rfl Tryz.call9 (hkv) ⟨ot, ot, trivial⟩ ?_
 refine os_ mv_ ?_
 refine os_ ex_ ?_
 refine os_ ex_ ?_
 refine os_ mv_ ?_
 refine os_ mv_ ?_
 refine OD.wk (Wk.as_ (n := 101) (l' := [(11, _), (12, _), (13, _), (14, _), (15, _), (16, _)]) (S' := [⟨b13, 26, 3, [_, _, _]⟩]) rfl rfl ⟨lk, lk, lk, lk, lk, lk, trivial⟩) ?_
 refine OD.nil ?_
 refine sr_ ?_
 refine OD.callP (wants_plain rfl) rfl rfl rfl Tryz.call8 (colsOf_vp) trivial ?_
 refine os_ mv_ ?_
 refine OD.still (wants_plain rfl) rfl (still_bld (pl := [(0, _), (2, _)]) (ds := [_, _, _, _, _]) rfl Tryz.zeroValue35 Tryz.runUnderlying35 places35_Exe ⟨rfl, opd_const, rfl, opd_const, trivial⟩ rfl rfl) ?_
 refine OD.bldS (pl := numD 0 [_]) (zvs := [.int .i64 0, .int .i64 0, .int .i64 0, .string ⟨#[]⟩, .string ⟨#[]⟩]) (ds := [_, _, _, _, _]) (wants_plain rfl) rfl rfl Tryz.zeroValue35 Tryz.runUnderlying36 Tryz.sizeOf35 rfl rfl (by kernel_rfl) ⟨rfl, ot, trivial⟩ (by exact rfl) (fill_full (by exact rfl) (by exact rfl) (by exact rfl)) (fun b58 => ?_)
 refine OD.perm (perm_q11 (S1 := [⟨b58, 35, 1 * 5, List.flatMap cO ([oneO nonB])⟩]) (A := [_])) ?_
 refine OD.giveL (t := 58) (Sq := [⟨b58, 35, 1 * 5, List.flatMap cO ([oneO nonB])⟩]) lk (ownL_row (g := cO) (sz := 5) (e := 35) (ls := [oneO nonB]) (Nat.le_refl _) (show 1 ≤ maxLen by decide)) (fm_len cO_len _) (perm_r11 (A := [_])) ?_
 refine OD.callP (wants_plain rfl) rfl rfl rfl Tryz.call7 (hen) ⟨ot, ot, ot, trivial⟩ ?_
 refine os_ mv_ ?_
 refine os_ ex_ ?_
 refine os_ ex_ ?_
 refine OD.alloc (ds := [_, _, _]) (wants_plain rfl) rfl rfl Tryz.zeroValue26 rfl (fun b17 => ?_)
 refine OD.store (k := 0) (cs' := [_, _, _]) (wants_plain rfl) rfl rfl ot rfl rfl ot rfl rfl Tryz.sizeOf26 rfl rfl rfl ?_
 refine os_ mv_ ?_
 refine OD.wk (Wk.as_ (n := 101) (l' := [(11, _), (12, _), (13, _), (14, _), (15, _), (16, _), (18, _)]) (S' := [⟨b17, 26, 3, [_, _, _]⟩, ⟨b13, 26, 3, [_, _, _]⟩]) rfl rfl ⟨lk, lk, lk, lk, lk, lk, lk, trivial⟩) ?_
 refine OD.nil ?_
 refine sr_ ?_
 refine OD.callP (wants_plain rfl) rfl rfl rfl Tryz.call8 (colsOf_vp) trivial ?_
 refine OD.still (wants_plain rfl) rfl (still_bld (pl := [(0, _), (2, _)]) (ds := [_, _, _, _, _]) rfl Tryz.zeroValue35 Tryz.runUnderlying35 places35_Exe ⟨rfl, opd_const, rfl, opd_const, trivial⟩ rfl rfl) ?_
 refine OD.bldS (pl := numD 0 [_]) (zvs := [.int .i64 0, .int .i64 0, .int .i64 0, .string ⟨#[]⟩, .string ⟨#[]⟩]) (ds := [_, _, _, _, _]) (wants_plain rfl) rfl rfl Tryz.zeroValue35 Tryz.runUnderlying36 Tryz.sizeOf35 rfl rfl (by kernel_rfl) ⟨rfl, ot, trivial⟩ (by exact rfl) (fill_full (by exact rfl) (by exact rfl) (by exact rfl)) (fun b65 => ?_)
 refine OD.perm (perm_q11 (S1 := [⟨b65, 35, 1 * 5, List.flatMap cO ([oneO idB])⟩]) (A := [_, _])) ?_
 refine OD.giveL (t := 65) (Sq := [⟨b65, 35, 1 * 5, List.flatMap cO ([oneO idB])⟩]) lk (ownL_row (g := cO) (sz := 5) (e := 35) (ls := [oneO idB]) (Nat.le_refl _) (show 1 ≤ maxLen by decide)) (fm_len cO_len _) (perm_r11 (A := [_, _])) ?_
 refine OD.callP (wants_plain rfl) rfl rfl rfl Tryz.call10 (hbv) ⟨ot, ot, trivial⟩ ?_
 refine os_ mv_ ?_
 refine os_ ex_ ?_
 refine os_ ex_ ?_
 refine os_ ex_ ?_
 refine os_ mv_ ?_
 refine os_ mv_ ?_
 refine os_ mv_ ?_
 refine OD.wk (Wk.as_ (n := 101) (l' := [(11, _), (12, _), (13, _), (14, _), (15, _), (16, _), (18, _), (21, _)]) (S' := [⟨b17, 26, 3, [_, _, _]⟩, ⟨b13, 26, 3, [_, _, _]⟩]) rfl rfl ⟨lk, lk, lk, lk, lk, lk, lk, lk, trivial⟩) ?_
 refine OD.nil ?_
 refine CD.seq ?_
 refine CD.draw (bks _) (by kernel_rfl) (fun _ h => h) ?_
 refine AD0.take (i := 0) rfl (by kernel_rfl) (by kernel_rfl) (by kernel_rfl) (by repeat (first | exact NP.body | apply NP.then | apply NP.cut | apply NP.inBlock | apply NP.round)) (wants_plain rfl) rfl (still_mv rfl ot) (by exact trivial) ?_
 refine AD0.take (i := 1) rfl (by kernel_rfl) (by kernel_rfl) (by kernel_rfl) (by repeat (first | exact NP.body | apply NP.then | apply NP.cut | apply NP.inBlock | apply NP.round)) (wants_plain rfl) rfl (still_bin rfl ot opd_const bin_eql) (by exact trivial) ?_
 refine AD0.take (i := 2) rfl (by kernel_rfl) (by kernel_rfl) (by kernel_rfl) (by repeat (first | exact NP.body | apply NP.then | apply NP.cut | apply NP.inBlock | apply NP.round)) (wants_plain rfl) rfl (still_mv rfl ot) (by exact trivial) ?_
 refine AD0.split (t := 72) lk (fun hg72 => ?_) (fun hg72 => ?_)
 ·have hg72' := hg72; (try simp only [V.cnd, ne_eq] at hg72')
  refine AD0.take (i := 3) rfl (by kernel_rfl) (by kernel_rfl) (by kernel_rfl) (by repeat (first | exact NP.body | apply NP.then | apply NP.cut | apply NP.inBlock | apply NP.round)) (wants_T rfl rfl rfl lk (by first | rfl | assumption)) rfl (still_mv rfl ot) (by exact trivial) ?_
  refine AD0.take (i := 4) rfl (by kernel_rfl) (by kernel_rfl) (by kernel_rfl) (by repeat (first | exact NP.body | apply NP.then | apply NP.cut | apply NP.inBlock | apply NP.round)) (wants_T rfl rfl rfl lk (by first | rfl | assumption)) rfl (still_bin rfl ot opd_const bin_eql) (by exact trivial) ?_
  refine AD0.take (i := 5) rfl (by kernel_rfl) (by kernel_rfl) (by kernel_rfl) (by repeat (first | exact NP.body | apply NP.then | apply NP.cut | apply NP.inBlock | apply NP.round)) (wants_plain rfl) rfl (still_pickT rfl ot (by first | rfl | assumption) ot) (by exact trivial) ?_
  refine AD0.take (i := 6) rfl (by kernel_rfl) (by kernel_rfl) (by kernel_rfl) (by repeat (first | exact NP.body | apply NP.then | apply NP.cut | apply NP.inBlock | apply NP.round)) (wants_plain rfl) rfl (still_mv rfl ot) (by exact trivial) ?_
  refine AD0.split (t := 76) lk (fun hg76 => ?_) (fun hg76 => ?_)
  ·have hg76' := hg76; (try simp only [V.cnd, ne_eq] at hg76')
   refine AD0.take (i := 7) rfl (by kernel_rfl) (by kernel_rfl) (by kernel_rfl) (by repeat (first | exact NP.body | apply NP.then | apply NP.cut | apply NP.inBlock | apply NP.round)) (wants_T rfl rfl rfl lk (by first | rfl | assumption)) rfl (still_mv rfl ot) (by exact trivial) ?_
   refine AD0.take (i := 8) rfl (by kernel_rfl) (by kernel_rfl) (by kernel_rfl) (by repeat (first | exact NP.body | apply NP.then | apply NP.cut | apply NP.inBlock | apply NP.round)) (wants_T rfl rfl rfl lk (by first | rfl | assumption)) rfl (still_bin rfl ot opd_const bin_eql) (by exact trivial) ?_
   refine AD0.take (i := 9) rfl (by kernel_rfl) (by kernel_rfl) (by kernel_rfl) (by repeat (first | exact NP.body | apply NP.then | apply NP.cut | apply NP.inBlock | apply NP.round)) (wants_plain rfl) rfl (still_pickT rfl ot (by first | rfl | assumption) ot) (by exact trivial) ?_
   refine AD0.take (i := 10) rfl (by kernel_rfl) (by kernel_rfl) (by kernel_rfl) (by repeat (first | exact NP.body | apply NP.then | apply NP.cut | apply NP.inBlock | apply NP.round)) (wants_plain rfl) rfl (still_mv rfl ot) (by exact trivial) ?_
   refine AD0.split (t := 80) lk (fun hg80 => ?_) (fun hg80 => ?_)
   ·have hg80' := hg80; (try simp only [V.cnd, ne_eq] at hg80')
    refine AD0.take (i := 11) rfl (by kernel_rfl) (by kernel_rfl) (by kernel_rfl) (by repeat (first | exact NP.body | apply NP.then | apply NP.cut | apply NP.inBlock | apply NP.round)) (wants_T rfl rfl rfl lk (by first | rfl | assumption)) rfl (still_mv rfl ot) (by exact trivial) ?_
    refine AD0.take (i := 12) rfl (by kernel_rfl) (by kernel_rfl) (by kernel_rfl) (by repeat (first | exact NP.body | apply NP.then | apply NP.cut | apply NP.inBlock | apply NP.round)) (wants_T rfl rfl rfl lk (by first | rfl | assumption)) rfl (still_bin rfl ot opd_const bin_eql) (by exact trivial) ?_
    refine AD0.take (i := 13) rfl (by kernel_rfl) (by kernel_rfl) (by kernel_rfl) (by repeat (first | exact NP.body | apply NP.then | apply NP.cut | apply NP.inBlock | apply NP.round)) (wants_plain rfl) rfl (still_pickT rfl ot (by first | rfl | assumption) ot) (by exact trivial) ?_
    refine AD0.take (i := 14) rfl (by kernel_rfl) (by kernel_rfl) (by kernel_rfl) (by repeat (first | exact NP.body | apply NP.then | apply NP.cut | apply NP.inBlock | apply NP.round)) (wants_plain rfl) rfl (still_mv rfl ot) (by exact trivial) ?_
    refine AD0.split (t := 84) lk (fun hg84 => ?_) (fun hg84 => ?_)
    ·have hg84' := hg84; (try simp only [V.cnd, ne_eq] at hg84')
     refine AD0.take (i := 15) rfl (by kernel_rfl) (by kernel_rfl) (by kernel_rfl) (by repeat (first | exact NP.body | apply NP.then | apply NP.cut | apply NP.inBlock | apply NP.round)) (wants_T rfl rfl rfl lk (by first | rfl | assumption)) rfl (still_r1 (mk := Op.load 26) rfl ot (by first | exact ld_blks (k := 1) (ds := [_, _, _]) rfl rfl Tryz.isAgg26 Tryz.sizeOf26 rfl rfl | exact ld_fms cC_len Tryz.isAgg26 Tryz.sizeOf26 (by first | assumption | omega) | exact ld_fms cV_len Tryz.isAgg26 Tryz.sizeOf26 (by first | assumption | omega) | exact ld_rows (k := 0) cC_len rfl rfl rfl Tryz.isAgg26 Tryz.sizeOf26 (by first | assumption | omega) | exact ld_rows (k := 1) cC_len rfl rfl rfl Tryz.isAgg26 Tryz.sizeOf26 (by first | assumption | omega) | exact ld_rows (k := 0) cV_len rfl rfl rfl Tryz.isAgg26 Tryz.sizeOf26 (by first | assumption | omega) | exact ld_rows (k := 1) cV_len rfl rfl rfl Tryz.isAgg26 Tryz.sizeOf26 (by first | assumption | omega) | exact ld_is (ds := [_, _, _]) Tryz.isAgg26 Tryz.sizeOf26 rfl rfl)) (by first | exact trivial | exact safe_blk (k0 := 0) rfl rfl | exact safe_blk (k0 := 1) rfl rfl) ?_
     refine AD0.take (i := 16) rfl (by kernel_rfl) (by kernel_rfl) (by kernel_rfl) (by repeat (first | exact NP.body | apply NP.then | apply NP.cut | apply NP.inBlock | apply NP.round)) (wants_T rfl rfl rfl lk (by first | rfl | assumption)) rfl (still_mv rfl ot) (by exact trivial) ?_
     refine AD0.take (i := 17) rfl (by kernel_rfl) (by kernel_rfl) (by kernel_rfl) (by repeat (first | exact NP.body | apply NP.then | apply NP.cut | apply NP.inBlock | apply NP.round)) (wants_T rfl rfl rfl lk (by first | rfl | assumption)) rfl (still_mv rfl ot) (by exact trivial) ?_
     refine AD0.take (i := 18) rfl (by kernel_rfl) (by kernel_rfl) (by kernel_rfl) (by repeat (first | exact NP.body | apply NP.then | apply NP.cut | apply NP.inBlock | apply NP.round)) (wants_T rfl rfl rfl lk (by first | rfl | assumption)) rfl (still_r2 (mk := Op.indexAddr 23) rfl ot ot (by first | exact ix_list Tryz.runUnderlying23 Tryz.sizeOf26 (j := 1) rfl (by rw [rowL_len]; decide) | exact ix_row Tryz.runUnderlying23 Tryz.sizeOf26 (j := 1) rfl (by rw [rowL_len]; decide))) (by exact trivial) ?_
     refine AD0.take (i := 19) rfl (by kernel_rfl) (by kernel_rfl) (by kernel_rfl) (by repeat (first | exact NP.body | apply NP.then | apply NP.cut | apply NP.inBlock | apply NP.round)) (wants_T rfl rfl rfl lk (by first | rfl | assumption)) rfl (still_r1 (mk := Op.load 26) rfl ot (by first | exact ld_blks (k := 0) (ds := [_, _, _]) rfl rfl Tryz.isAgg26 Tryz.sizeOf26 rfl rfl | exact ld_blks (k := 1) (ds := [_, _, _]) rfl rfl Tryz.isAgg26 Tryz.sizeOf26 rfl rfl | exact ld_fms cC_len Tryz.isAgg26 Tryz.sizeOf26 (by first | assumption | omega) | exact ld_fms cV_len Tryz.isAgg26 Tryz.sizeOf26 (by first | assumption | omega) | exact ld_rows (k := 0) cC_len rfl rfl rfl Tryz.isAgg26 Tryz.sizeOf26 (by first | assumption | omega) | exact ld_rows (k := 1) cC_len rfl rfl rfl Tryz.isAgg26 Tryz.sizeOf26 (by first | assumption | omega) | exact ld_rows (k := 0) cV_len rfl rfl rfl Tryz.isAgg26 Tryz.sizeOf26 (by first | assumption | omega) | exact ld_rows (k := 1) cV_len rfl rfl rfl Tryz.isAgg26 Tryz.sizeOf26 (by first | assumption | omega) | exact ld_is (ds := [_, _, _]) Tryz.isAgg26 Tryz.sizeOf26 rfl rfl)) (by first | exact trivial | exact safe_blk (k0 := 0) rfl rfl | exact safe_blk (k0 := 1) rfl rfl) ?_
     refine AD0.take (i := 20) rfl (by kernel_rfl) (by kernel_rfl) (by kernel_rfl) (by repeat (first | exact NP.body | apply NP.then | apply NP.cut | apply NP.inBlock | apply NP.round)) (wants_T rfl rfl rfl lk (by first | rfl | assumption)) rfl (still_eqS (us := [_, _, _]) (us' := [_, _, _]) rfl ot ot Tryz.eqGuardType26 (Vl.eqs26 v _)) (by exact trivial) ?_
     refine AD0.take (i := 21) rfl (by kernel_rfl) (by kernel_rfl) (by kernel_rfl) (by repeat (first | exact NP.body | apply NP.then | apply NP.cut | apply NP.inBlock | apply NP.round)) (wants_plain rfl) rfl (still_pickT rfl ot (by first | rfl | assumption) ot) (by exact trivial) ?_
     refine AD0.take (i := 22) rfl (by kernel_rfl) (by kernel_rfl) (by kernel_rfl) (by repeat (first | exact NP.body | apply NP.then | apply NP.cut | apply NP.inBlock | apply NP.round)) (wants_plain rfl) rfl (still_mv rfl ot) (by exact trivial) ?_
     refine AD0.split (t := 92) lk (fun hg92 => ?_) (fun hg92 => ?_)
     ·have hg92' := hg92; (try simp only [V.cnd, ne_eq] at hg92')
      refine AD0.take (i := 23) rfl (by kernel_rfl) (by kernel_rfl) (by kernel_rfl) (by repeat (first | exact NP.body | apply NP.then | apply NP.cut | apply NP.inBlock | apply NP.round)) (wants_T rfl rfl rfl lk (by first | rfl | assumption)) rfl (still_mv rfl ot) (by exact trivial) ?_
      refine AD0.take (i := 25) rfl (by kernel_rfl) (by kernel_rfl) (by kernel_rfl) (by repeat (first | exact NP.body | apply NP.then | apply NP.cut | apply NP.inBlock | apply NP.round)) (wants_T rfl rfl rfl lk (by first | rfl | assumption)) rfl (still_mv rfl ot) (by exact trivial) ?_
      refine AD0.later rfl ?_
      refine AD.one (i := 24) (by kernel_rfl) ?_
      refine AStep.callP rfl (wants_T rfl rfl rfl lk (by first | rfl | assumption)) rfl rfl rfl Tryz.call8 (colsOf_vp) trivial ?_
      refine AD.take (i := 26) rfl (by kernel_rfl) (by kernel_rfl) (by kernel_rfl) (by repeat (first | exact NP.body | apply NP.then | apply NP.cut | apply NP.inBlock | apply NP.round)) (wants_T rfl rfl rfl lk (by first | rfl | assumption)) rfl (still_r2 (mk := Op.indexAddr 30) rfl ot ot (by first | exact ix_list Tryz.runUnderlying30 Tryz.sizeOf33 (j := 1) rfl (by decide) | exact ix_row Tryz.runUnderlying30 Tryz.sizeOf33 (j := 1) rfl (by decide))) (by exact trivial) (by intro h; cases h) ?_
      refine AD.take (i := 27) rfl (by kernel_rfl) (by kernel_rfl) (by kernel_rfl) (by repeat (first | exact NP.body | apply NP.then | apply NP.cut | apply NP.inBlock | apply NP.round)) (wants_T rfl rfl rfl lk (by first | rfl | assumption)) rfl (still_r1 (mk := fun y => Op.fieldAddr 33 y 1) rfl ot (by first | exact fa_ptr (off := 1) Tryz.runUnderlying33 rfl Tryz.sizeOf3 rfl | exact fa_iptr (off := 1) Tryz.runUnderlying33 rfl Tryz.sizeOf3 rfl)) (by exact trivial) (by intro h; cases h) ?_
      refine AD.one (i := 28) (by kernel_rfl) ?_
      refine AStep.still rfl (wants_T rfl rfl rfl lk (by first | rfl | assumption)) rfl (still_r1 (mk := Op.load 3) rfl ot (by first | exact ld_blk (k := 0) rfl rfl Tryz.isAgg3 rfl | exact ld_blk (k := 1) rfl rfl Tryz.isAgg3 rfl | exact ld_fm cC_len Tryz.isAgg3 (by first | assumption | omega) rfl | exact ld_fm0 cC_len Tryz.isAgg3 (by first | assumption | omega) rfl | exact ld_fm cV_len Tryz.isAgg3 (by first | assumption | omega) rfl | exact ld_fm0 cV_len Tryz.isAgg3 (by first | assumption | omega) rfl | exact ld_row (k := 0) cC_len rfl rfl rfl Tryz.isAgg3 (by first | assumption | omega) rfl | exact ld_row0 (k := 0) cC_len rfl rfl rfl Tryz.isAgg3 (by first | assumption | omega) rfl | exact ld_row (k := 1) cC_len rfl rfl rfl Tryz.isAgg3 (by first | assumption | omega) rfl | exact ld_row0 (k := 1) cC_len rfl rfl rfl Tryz.isAgg3 (by first | assumption | omega) rfl | exact ld_row (k := 0) cV_len rfl rfl rfl Tryz.isAgg3 (by first | assumption | omega) rfl | exact ld_row0 (k := 0) cV_len rfl rfl rfl Tryz.isAgg3 (by first | assumption | omega) rfl | exact ld_row (k := 1) cV_len rfl rfl rfl Tryz.isAgg3 (by first | assumption | omega) rfl | exact ld_row0 (k := 1) cV_len rfl rfl rfl Tryz.isAgg3 (by first | assumption | omega) rfl | exact ld_i Tryz.isAgg3 rfl)) ?_
      refine AD.take (i := 29) rfl (by kernel_rfl) (by kernel_rfl) (by kernel_rfl) (by repeat (first | exact NP.body | apply NP.then | apply NP.cut | apply NP.inBlock | apply NP.round)) (wants_T rfl rfl rfl lk (by first | rfl | assumption)) rfl (still_bin rfl ot ot bin_eql) (by exact trivial) (by intro h; cases h) ?_
      refine AD.take (i := 30) rfl (by kernel_rfl) (by kernel_rfl) (by kernel_rfl) (by repeat (first | exact NP.body | apply NP.then | apply NP.cut | apply NP.inBlock | apply NP.round)) (wants_plain rfl) rfl (still_pickT rfl ot (by first | rfl | assumption) ot) (by exact trivial) (by intro h; cases h) ?_
      refine AD.take (i := 31) rfl (by kernel_rfl) (by kernel_rfl) (by kernel_rfl) (by repeat (first | exact NP.body | apply NP.then | apply NP.cut | apply NP.inBlock | apply NP.round)) (wants_plain rfl) rfl (still_as rfl ot) (by exact trivial) (by intro h; cases h) ?_
      refine AD.wk (y := ⟨101, [(10, _)], [⟨b17, 26, 3, [_, _, _]⟩, ⟨b13, 26, 3, [_, _, _]⟩]⟩) (Wk.as_ rfl rfl ⟨lk, trivial⟩) rfl ?_
      refine AD.done (by kernel_rfl) ?_
      refine CD.ret ?_
      refine ⟨.inr rfl, _, [], List.nil_sublist _, ret_one Tryz.results3 (res_tmp (Nat.le_of_ble_eq_true rfl) lk), ?_⟩
      first | exact ⟨rfl, rfl⟩ | (refine ⟨vb ?_, rfl⟩; simp)
     ·exact absurd hg92 (by simp [hvg]; rw [← hvg]; exact ⟨rfl, rfl, rfl⟩)
    ·exact absurd hg84 (by simp)
   ·exact absurd hg80 (by simp)
  ·exact absurd hg76 (by simp)
 ·exact absurd hg72 (by simp)

set_option maxHeartbeats 4000000 in
set_option maxRecDepth 100000 in
theorem col2_vp {m : Int} (hm : (3, marksC) ∈ G) (hw : (0, wordsC) ∈ G) (ht : (1, typesC) ∈ G) (hG : (2, [Value.int .i64 m]) ∈ G) (a : Int) (a1 : -9223372036854775808 ≤ a) (a2 : a ≤ 9223372036854775807) (b : Int) (b1 : -9223372036854775808 ≤ b) (b2 : b ≤ 9223372036854775807) (s : ByteArray) (hs : s.size ≤ maxLen) (c : Int) (c1 : -9223372036854775808 ≤ c) (c2 : c ≤ 9223372036854775807) (p : Int) (p1 : -9223372036854775808 ≤ p) (p2 : p ≤ 9223372036854775807) (hk : pickedF p 4 = 2) : VP Tryz.prog G 3 [.v (.int .i64 a), .v (.int .i64 b), .v (.string s), .v (.int .i64 c), .v (.int .i64 p)] (.v (.bool true)) := by
 refine VC.body Tryz.func3 rfl Tryz.ntmps3 (Nat.le_of_ble_eq_true rfl) fun X0 w0 S00 => ?_
 have hk1 := kind_one nm_s
 rw [show kindAt colsL ⟨#[115]⟩ = (3, 0) by unfold kindAt; rw [at_s]; rfl] at hk1
 have hkv := Kind_one hm hw ht hG ⟨#[115]⟩ (by decide)
 rw [hk1] at hkv
 have hev := Eval_one hm hw ht hG a b s c ⟨#[115]⟩ (by decide)
 rw [eval_one' a b s c nm_s (j := 2) at_s] at hev
 have hen := Eval_one hm hw ht hG a b s c nonB (by decide)
 rw [eval_none] at hen
 have hbv := Bounds_at hm hw ht hG [oneO idB] (fine_one (by decide))
 rw [bounds_one] at hbv
 have hpk := picked_vp G p 4 p1 p2 (by decide)
 rw [hk] at hpk
 unfold vlD at hev hen
 unfold twoI at hkv
 unfold bdD bytesL at hbv
 dsimp only at hev hen hkv hbv
 have hrw : (rowL a b s c).getD 2 noVl = (rowL a b s c)[2]'(by rw [rowL_len]; decide) := rfl
 rw [hrw] at hev
 generalize hvg : (rowL a b s c)[2]'(by rw [rowL_len]; decide) = v at hev
 unfold cV at hev hen
 refine sr_ ?_
 refine os_ mv_ ?_
 refine nm_ [0, 1, 2, 3, 4] ?_
 refine sr_ ?_
 refine os_ mv_ ?_
 refine OD.callP (wants_plain rfl) rfl rfl rfl Tryz.call5 (hpk) ⟨ot, opd_const, trivial⟩ ?_
 refine os_ mv_ ?_
 refine OD.wk (Wk.as_ (n := 101) (l' := [(0, _), (1, _), (2, _), (3, _), (11, _)]) (S' := []) rfl rfl ⟨lk, lk, lk, lk, lk, trivial⟩) ?_
 refine OD.nil ?_
 refine sr_ ?_
 refine os_ mv_ ?_
 refine os_ mv_ ?_
 refine os_ mv_ ?_
 refine os_ mv_ ?_
 refine OD.callP (wants_plain rfl) rfl rfl rfl Tryz.call6 (rowOf_vp a a1 a2 b b1 b2 s hs c c1 c2) ⟨ot, ot, ot, ot, trivial⟩ ?_
 refine os_ mv_ ?_
 refine OD.wk (Wk.as_ (n := 101) (l' := [(11, _), (12, _)]) (S' := []) rfl rfl ⟨lk, lk, trivial⟩) ?_
 refine OD.nil ?_
 refine sr_ ?_
 refine OD.callP (wants_plain rfl) rfl rfl rfl Tryz.call8 (colsOf_vp) trivial ?_
 refine os_ mv_ ?_
 refine OD.callP (wants_plain rfl) rfl rfl rfl Tryz.call8 (colsOf_vp) trivial ?_
 refine os_ mv_ ?_
 refine os_ (ix_ 2 (h := by first | exact .l (j := 2) rfl (by decide) | exact .r (j := 2) rfl (by decide))) ?_
 refine os_ (fa_ 0) ?_
 refine os_ ld_ ?_
 refine OD.still (wants_plain rfl) rfl (still_bld (pl := [(0, _), (2, _)]) (ds := [_, _, _, _, _]) rfl Tryz.zeroValue35 Tryz.runUnderlying35 places35_Exe ⟨rfl, opd_const, rfl, ot, trivial⟩ rfl rfl) ?_
 refine OD.bldS (pl := numD 0 [_]) (zvs := [.int .i64 0, .int .i64 0, .int .i64 0, .string ⟨#[]⟩, .string ⟨#[]⟩]) (ds := [_, _, _, _, _]) (wants_plain rfl) rfl rfl Tryz.zeroValue35 Tryz.runUnderlying36 Tryz.sizeOf35 rfl rfl (by kernel_rfl) ⟨rfl, ot, trivial⟩ (by exact rfl) (fill_full (by exact rfl) (by exact rfl) (by exact rfl)) (fun b38 => ?_)
 refine OD.perm (perm_q11 (S1 := [⟨b38, 35, 1 * 5, List.flatMap cO ([oneO ⟨#[115]⟩])⟩]) (A := [])) ?_
 refine OD.giveL (t := 38) (Sq := [⟨b38, 35, 1 * 5, List.flatMap cO ([oneO ⟨#[115]⟩])⟩]) lk (ownL_row (g := cO) (sz := 5) (e := 35) (ls := [oneO ⟨#[115]⟩]) (Nat.le_refl _) (show 1 ≤ maxLen by decide)) (fm_len cO_len _) (perm_r11 (A := [])) ?_
 refine OD.callP (wants_plain rfl) rfl rfl rfl Tryz.call7 (hev) ⟨ot, ot, ot, trivial⟩ ?_
 refine os_ mv_ ?_
 refine os_ ex_ ?_
 refine os_ ex_ ?_
 refine OD.alloc (ds := [_, _, _]) (wants_plain rfl) rfl rfl Tryz.zeroValue26 rfl (fun b13 => ?_)
 refine OD.store (k := 0) (cs' := [_, _, _]) (wants_plain rfl) rfl rfl ot rfl rfl ot rfl rfl Tryz.sizeOf26 rfl rfl rfl ?_
 refine os_ mv_ ?_
 refine OD.wk (Wk.as_ (n := 101) (l' := [(11, _), (12, _), (13, _), (14, _)]) (S' := [⟨b13, 26, 3, [_, _, _]⟩]) rfl rfl ⟨lk, lk, lk, lk, trivial⟩) ?_
 refine OD.nil ?_
 refine sr_ ?_
 refine OD.callP (wants_plain rfl) rfl rfl rfl Tryz.call8 (colsOf_vp) trivial ?_
 refine OD.callP (wants_plain rfl) rfl rfl rfl Tryz.call8 (colsOf_vp) trivial ?_
 refine os_ mv_ ?_
 refine os_ (ix_ 2 (h := by first | exact .l (j := 2) rfl (by decide) | exact .r (j := 2) rfl (by decide))) ?_
 refine os_ (fa_ 0) ?_
 refine os_ ld_ ?_
 refine OD.still (wants_plain rfl) rfl (still_bld (pl := [(0, _), (2, _)]) (ds := [_, _, _, _, _]) rfl Tryz.zeroValue35 Tryz.runUnderlying35 places35_Exe ⟨rfl, opd_const, rfl, ot, trivial⟩ rfl rfl) ?_
 refine OD.bldS (pl := numD 0 [_]) (zvs := [.int .i64 0, .int .i64 0, .int .i64 0, .string ⟨#[]⟩, .string ⟨#[]⟩]) (ds := [_, _, _, _, _]) (wants_plain rfl) rfl rfl Tryz.zeroValue35 Tryz.runUnderlying36 Tryz.sizeOf35 rfl rfl (by kernel_rfl) ⟨rfl, ot, trivial⟩ (by exact rfl) (fill_full (by exact rfl) (by exact rfl) (by exact rfl)) (fun b50 => ?_)
 refine OD.perm (perm_q11 (S1 := [⟨b50, 35, 1 * 5, List.flatMap cO ([oneO ⟨#[115]⟩])⟩]) (A := [_])) ?_
 refine OD.giveL (t := 50) (Sq := [⟨b50, 35, 1 * 5, List.flatMap cO ([oneO ⟨#[115]⟩])⟩]) lk (ownL_row (g := cO) (sz := 5) (e := 35) (ls := [oneO ⟨#[115]⟩]) (Nat.le_refl _) (show 1 ≤ maxLen by decide)) (fm_len cO_len _) (perm_r11 (A := [_])) ?_
 refine OD.callP (wants_plain rfl) rfl rfl rfl Tryz.call9 (hkv) ⟨ot, ot, trivial⟩ ?_
 refine os_ mv_ ?_
 refine os_ ex_ ?_
 refine os_ ex_ ?_
 refine os_ mv_ ?_
 refine os_ mv_ ?_
 refine OD.wk (Wk.as_ (n := 101) (l' := [(11, _), (12, _), (13, _), (14, _), (15, _), (16, _)]) (S' := [⟨b13, 26, 3, [_, _, _]⟩]) rfl rfl ⟨lk, lk, lk, lk, lk, lk, trivial⟩) ?_
 refine OD.nil ?_
 refine sr_ ?_
 refine OD.callP (wants_plain rfl) rfl rfl rfl Tryz.call8 (colsOf_vp) trivial ?_
 refine os_ mv_ ?_
 refine OD.still (wants_plain rfl) rfl (still_bld (pl := [(0, _), (2, _)]) (ds := [_, _, _, _, _]) rfl Tryz.zeroValue35 Tryz.runUnderlying35 places35_Exe ⟨rfl, opd_const, rfl, opd_const, trivial⟩ rfl rfl) ?_
 refine OD.bldS (pl := numD 0 [_]) (zvs := [.int .i64 0, .int .i64 0, .int .i64 0, .string ⟨#[]⟩, .string ⟨#[]⟩]) (ds := [_, _, _, _, _]) (wants_plain rfl) rfl rfl Tryz.zeroValue35 Tryz.runUnderlying36 Tryz.sizeOf35 rfl rfl (by kernel_rfl) ⟨rfl, ot, trivial⟩ (by exact rfl) (fill_full (by exact rfl) (by exact rfl) (by exact rfl)) (fun b58 => ?_)
 refine OD.perm (perm_q11 (S1 := [⟨b58, 35, 1 * 5, List.flatMap cO ([oneO nonB])⟩]) (A := [_])) ?_
 refine OD.giveL (t := 58) (Sq := [⟨b58, 35, 1 * 5, List.flatMap cO ([oneO nonB])⟩]) lk (ownL_row (g := cO) (sz := 5) (e := 35) (ls := [oneO nonB]) (Nat.le_refl _) (show 1 ≤ maxLen by decide)) (fm_len cO_len _) (perm_r11 (A := [_])) ?_
 refine OD.callP (wants_plain rfl) rfl rfl rfl Tryz.call7 (hen) ⟨ot, ot, ot, trivial⟩ ?_
 refine os_ mv_ ?_
 refine os_ ex_ ?_
 refine os_ ex_ ?_
 refine OD.alloc (ds := [_, _, _]) (wants_plain rfl) rfl rfl Tryz.zeroValue26 rfl (fun b17 => ?_)
 refine OD.store (k := 0) (cs' := [_, _, _]) (wants_plain rfl) rfl rfl ot rfl rfl ot rfl rfl Tryz.sizeOf26 rfl rfl rfl ?_
 refine os_ mv_ ?_
 refine OD.wk (Wk.as_ (n := 101) (l' := [(11, _), (12, _), (13, _), (14, _), (15, _), (16, _), (18, _)]) (S' := [⟨b17, 26, 3, [_, _, _]⟩, ⟨b13, 26, 3, [_, _, _]⟩]) rfl rfl ⟨lk, lk, lk, lk, lk, lk, lk, trivial⟩) ?_
 refine OD.nil ?_
 refine sr_ ?_
 refine OD.callP (wants_plain rfl) rfl rfl rfl Tryz.call8 (colsOf_vp) trivial ?_
 refine OD.still (wants_plain rfl) rfl (still_bld (pl := [(0, _), (2, _)]) (ds := [_, _, _, _, _]) rfl Tryz.zeroValue35 Tryz.runUnderlying35 places35_Exe ⟨rfl, opd_const, rfl, opd_const, trivial⟩ rfl rfl) ?_
 refine OD.bldS (pl := numD 0 [_]) (zvs := [.int .i64 0, .int .i64 0, .int .i64 0, .string ⟨#[]⟩, .string ⟨#[]⟩]) (ds := [_, _, _, _, _]) (wants_plain rfl) rfl rfl Tryz.zeroValue35 Tryz.runUnderlying36 Tryz.sizeOf35 rfl rfl (by kernel_rfl) ⟨rfl, ot, trivial⟩ (by exact rfl) (fill_full (by exact rfl) (by exact rfl) (by exact rfl)) (fun b65 => ?_)
 refine OD.perm (perm_q11 (S1 := [⟨b65, 35, 1 * 5, List.flatMap cO ([oneO idB])⟩]) (A := [_, _])) ?_
 refine OD.giveL (t := 65) (Sq := [⟨b65, 35, 1 * 5, List.flatMap cO ([oneO idB])⟩]) lk (ownL_row (g := cO) (sz := 5) (e := 35) (ls := [oneO idB]) (Nat.le_refl _) (show 1 ≤ maxLen by decide)) (fm_len cO_len _) (perm_r11 (A := [_, _])) ?_
 refine OD.callP (wants_plain rfl) rfl rfl rfl Tryz.call10 (hbv) ⟨ot, ot, trivial⟩ ?_
 refine os_ mv_ ?_
 refine os_ ex_ ?_
 refine os_ ex_ ?_
 refine os_ ex_ ?_
 refine os_ mv_ ?_
 refine os_ mv_ ?_
 refine os_ mv_ ?_
 refine OD.wk (Wk.as_ (n := 101) (l' := [(11, _), (12, _), (13, _), (14, _), (15, _), (16, _), (18, _), (21, _)]) (S' := [⟨b17, 26, 3, [_, _, _]⟩, ⟨b13, 26, 3, [_, _, _]⟩]) rfl rfl ⟨lk, lk, lk, lk, lk, lk, lk, lk, trivial⟩) ?_
 refine OD.nil ?_
 refine CD.seq ?_
 refine CD.draw (bks _) (by kernel_rfl) (fun _ h => h) ?_
 refine AD0.take (i := 0) rfl (by kernel_rfl) (by kernel_rfl) (by kernel_rfl) (by repeat (first | exact NP.body | apply NP.then | apply NP.cut | apply NP.inBlock | apply NP.round)) (wants_plain rfl) rfl (still_mv rfl ot) (by exact trivial) ?_
 refine AD0.take (i := 1) rfl (by kernel_rfl) (by kernel_rfl) (by kernel_rfl) (by repeat (first | exact NP.body | apply NP.then | apply NP.cut | apply NP.inBlock | apply NP.round)) (wants_plain rfl) rfl (still_bin rfl ot opd_const bin_eql) (by exact trivial) ?_
 refine AD0.take (i := 2) rfl (by kernel_rfl) (by kernel_rfl) (by kernel_rfl) (by repeat (first | exact NP.body | apply NP.then | apply NP.cut | apply NP.inBlock | apply NP.round)) (wants_plain rfl) rfl (still_mv rfl ot) (by exact trivial) ?_
 refine AD0.split (t := 72) lk (fun hg72 => ?_) (fun hg72 => ?_)
 ·have hg72' := hg72; (try simp only [V.cnd, ne_eq] at hg72')
  refine AD0.take (i := 3) rfl (by kernel_rfl) (by kernel_rfl) (by kernel_rfl) (by repeat (first | exact NP.body | apply NP.then | apply NP.cut | apply NP.inBlock | apply NP.round)) (wants_T rfl rfl rfl lk (by first | rfl | assumption)) rfl (still_mv rfl ot) (by exact trivial) ?_
  refine AD0.take (i := 4) rfl (by kernel_rfl) (by kernel_rfl) (by kernel_rfl) (by repeat (first | exact NP.body | apply NP.then | apply NP.cut | apply NP.inBlock | apply NP.round)) (wants_T rfl rfl rfl lk (by first | rfl | assumption)) rfl (still_bin rfl ot opd_const bin_eql) (by exact trivial) ?_
  refine AD0.take (i := 5) rfl (by kernel_rfl) (by kernel_rfl) (by kernel_rfl) (by repeat (first | exact NP.body | apply NP.then | apply NP.cut | apply NP.inBlock | apply NP.round)) (wants_plain rfl) rfl (still_pickT rfl ot (by first | rfl | assumption) ot) (by exact trivial) ?_
  refine AD0.take (i := 6) rfl (by kernel_rfl) (by kernel_rfl) (by kernel_rfl) (by repeat (first | exact NP.body | apply NP.then | apply NP.cut | apply NP.inBlock | apply NP.round)) (wants_plain rfl) rfl (still_mv rfl ot) (by exact trivial) ?_
  refine AD0.split (t := 76) lk (fun hg76 => ?_) (fun hg76 => ?_)
  ·have hg76' := hg76; (try simp only [V.cnd, ne_eq] at hg76')
   refine AD0.take (i := 7) rfl (by kernel_rfl) (by kernel_rfl) (by kernel_rfl) (by repeat (first | exact NP.body | apply NP.then | apply NP.cut | apply NP.inBlock | apply NP.round)) (wants_T rfl rfl rfl lk (by first | rfl | assumption)) rfl (still_mv rfl ot) (by exact trivial) ?_
   refine AD0.take (i := 8) rfl (by kernel_rfl) (by kernel_rfl) (by kernel_rfl) (by repeat (first | exact NP.body | apply NP.then | apply NP.cut | apply NP.inBlock | apply NP.round)) (wants_T rfl rfl rfl lk (by first | rfl | assumption)) rfl (still_bin rfl ot opd_const bin_eql) (by exact trivial) ?_
   refine AD0.take (i := 9) rfl (by kernel_rfl) (by kernel_rfl) (by kernel_rfl) (by repeat (first | exact NP.body | apply NP.then | apply NP.cut | apply NP.inBlock | apply NP.round)) (wants_plain rfl) rfl (still_pickT rfl ot (by first | rfl | assumption) ot) (by exact trivial) ?_
   refine AD0.take (i := 10) rfl (by kernel_rfl) (by kernel_rfl) (by kernel_rfl) (by repeat (first | exact NP.body | apply NP.then | apply NP.cut | apply NP.inBlock | apply NP.round)) (wants_plain rfl) rfl (still_mv rfl ot) (by exact trivial) ?_
   refine AD0.split (t := 80) lk (fun hg80 => ?_) (fun hg80 => ?_)
   ·have hg80' := hg80; (try simp only [V.cnd, ne_eq] at hg80')
    refine AD0.take (i := 11) rfl (by kernel_rfl) (by kernel_rfl) (by kernel_rfl) (by repeat (first | exact NP.body | apply NP.then | apply NP.cut | apply NP.inBlock | apply NP.round)) (wants_T rfl rfl rfl lk (by first | rfl | assumption)) rfl (still_mv rfl ot) (by exact trivial) ?_
    refine AD0.take (i := 12) rfl (by kernel_rfl) (by kernel_rfl) (by kernel_rfl) (by repeat (first | exact NP.body | apply NP.then | apply NP.cut | apply NP.inBlock | apply NP.round)) (wants_T rfl rfl rfl lk (by first | rfl | assumption)) rfl (still_bin rfl ot opd_const bin_eql) (by exact trivial) ?_
    refine AD0.take (i := 13) rfl (by kernel_rfl) (by kernel_rfl) (by kernel_rfl) (by repeat (first | exact NP.body | apply NP.then | apply NP.cut | apply NP.inBlock | apply NP.round)) (wants_plain rfl) rfl (still_pickT rfl ot (by first | rfl | assumption) ot) (by exact trivial) ?_
    refine AD0.take (i := 14) rfl (by kernel_rfl) (by kernel_rfl) (by kernel_rfl) (by repeat (first | exact NP.body | apply NP.then | apply NP.cut | apply NP.inBlock | apply NP.round)) (wants_plain rfl) rfl (still_mv rfl ot) (by exact trivial) ?_
    refine AD0.split (t := 84) lk (fun hg84 => ?_) (fun hg84 => ?_)
    ·have hg84' := hg84; (try simp only [V.cnd, ne_eq] at hg84')
     refine AD0.take (i := 15) rfl (by kernel_rfl) (by kernel_rfl) (by kernel_rfl) (by repeat (first | exact NP.body | apply NP.then | apply NP.cut | apply NP.inBlock | apply NP.round)) (wants_T rfl rfl rfl lk (by first | rfl | assumption)) rfl (still_r1 (mk := Op.load 26) rfl ot (by first | exact ld_blks (k := 1) (ds := [_, _, _]) rfl rfl Tryz.isAgg26 Tryz.sizeOf26 rfl rfl | exact ld_fms cC_len Tryz.isAgg26 Tryz.sizeOf26 (by first | assumption | omega) | exact ld_fms cV_len Tryz.isAgg26 Tryz.sizeOf26 (by first | assumption | omega) | exact ld_rows (k := 0) cC_len rfl rfl rfl Tryz.isAgg26 Tryz.sizeOf26 (by first | assumption | omega) | exact ld_rows (k := 1) cC_len rfl rfl rfl Tryz.isAgg26 Tryz.sizeOf26 (by first | assumption | omega) | exact ld_rows (k := 0) cV_len rfl rfl rfl Tryz.isAgg26 Tryz.sizeOf26 (by first | assumption | omega) | exact ld_rows (k := 1) cV_len rfl rfl rfl Tryz.isAgg26 Tryz.sizeOf26 (by first | assumption | omega) | exact ld_is (ds := [_, _, _]) Tryz.isAgg26 Tryz.sizeOf26 rfl rfl)) (by first | exact trivial | exact safe_blk (k0 := 0) rfl rfl | exact safe_blk (k0 := 1) rfl rfl) ?_
     refine AD0.take (i := 16) rfl (by kernel_rfl) (by kernel_rfl) (by kernel_rfl) (by repeat (first | exact NP.body | apply NP.then | apply NP.cut | apply NP.inBlock | apply NP.round)) (wants_T rfl rfl rfl lk (by first | rfl | assumption)) rfl (still_mv rfl ot) (by exact trivial) ?_
     refine AD0.take (i := 17) rfl (by kernel_rfl) (by kernel_rfl) (by kernel_rfl) (by repeat (first | exact NP.body | apply NP.then | apply NP.cut | apply NP.inBlock | apply NP.round)) (wants_T rfl rfl rfl lk (by first | rfl | assumption)) rfl (still_mv rfl ot) (by exact trivial) ?_
     refine AD0.take (i := 18) rfl (by kernel_rfl) (by kernel_rfl) (by kernel_rfl) (by repeat (first | exact NP.body | apply NP.then | apply NP.cut | apply NP.inBlock | apply NP.round)) (wants_T rfl rfl rfl lk (by first | rfl | assumption)) rfl (still_r2 (mk := Op.indexAddr 23) rfl ot ot (by first | exact ix_list Tryz.runUnderlying23 Tryz.sizeOf26 (j := 2) rfl (by rw [rowL_len]; decide) | exact ix_row Tryz.runUnderlying23 Tryz.sizeOf26 (j := 2) rfl (by rw [rowL_len]; decide))) (by exact trivial) ?_
     refine AD0.take (i := 19) rfl (by kernel_rfl) (by kernel_rfl) (by kernel_rfl) (by repeat (first | exact NP.body | apply NP.then | apply NP.cut | apply NP.inBlock | apply NP.round)) (wants_T rfl rfl rfl lk (by first | rfl | assumption)) rfl (still_r1 (mk := Op.load 26) rfl ot (by first | exact ld_blks (k := 0) (ds := [_, _, _]) rfl rfl Tryz.isAgg26 Tryz.sizeOf26 rfl rfl | exact ld_blks (k := 1) (ds := [_, _, _]) rfl rfl Tryz.isAgg26 Tryz.sizeOf26 rfl rfl | exact ld_fms cC_len Tryz.isAgg26 Tryz.sizeOf26 (by first | assumption | omega) | exact ld_fms cV_len Tryz.isAgg26 Tryz.sizeOf26 (by first | assumption | omega) | exact ld_rows (k := 0) cC_len rfl rfl rfl Tryz.isAgg26 Tryz.sizeOf26 (by first | assumption | omega) | exact ld_rows (k := 1) cC_len rfl rfl rfl Tryz.isAgg26 Tryz.sizeOf26 (by first | assumption | omega) | exact ld_rows (k := 0) cV_len rfl rfl rfl Tryz.isAgg26 Tryz.sizeOf26 (by first | assumption | omega) | exact ld_rows (k := 1) cV_len rfl rfl rfl Tryz.isAgg26 Tryz.sizeOf26 (by first | assumption | omega) | exact ld_is (ds := [_, _, _]) Tryz.isAgg26 Tryz.sizeOf26 rfl rfl)) (by first | exact trivial | exact safe_blk (k0 := 0) rfl rfl | exact safe_blk (k0 := 1) rfl rfl) ?_
     refine AD0.take (i := 20) rfl (by kernel_rfl) (by kernel_rfl) (by kernel_rfl) (by repeat (first | exact NP.body | apply NP.then | apply NP.cut | apply NP.inBlock | apply NP.round)) (wants_T rfl rfl rfl lk (by first | rfl | assumption)) rfl (still_eqS (us := [_, _, _]) (us' := [_, _, _]) rfl ot ot Tryz.eqGuardType26 (Vl.eqs26 v _)) (by exact trivial) ?_
     refine AD0.take (i := 21) rfl (by kernel_rfl) (by kernel_rfl) (by kernel_rfl) (by repeat (first | exact NP.body | apply NP.then | apply NP.cut | apply NP.inBlock | apply NP.round)) (wants_plain rfl) rfl (still_pickT rfl ot (by first | rfl | assumption) ot) (by exact trivial) ?_
     refine AD0.take (i := 22) rfl (by kernel_rfl) (by kernel_rfl) (by kernel_rfl) (by repeat (first | exact NP.body | apply NP.then | apply NP.cut | apply NP.inBlock | apply NP.round)) (wants_plain rfl) rfl (still_mv rfl ot) (by exact trivial) ?_
     refine AD0.split (t := 92) lk (fun hg92 => ?_) (fun hg92 => ?_)
     ·have hg92' := hg92; (try simp only [V.cnd, ne_eq] at hg92')
      refine AD0.take (i := 23) rfl (by kernel_rfl) (by kernel_rfl) (by kernel_rfl) (by repeat (first | exact NP.body | apply NP.then | apply NP.cut | apply NP.inBlock | apply NP.round)) (wants_T rfl rfl rfl lk (by first | rfl | assumption)) rfl (still_mv rfl ot) (by exact trivial) ?_
      refine AD0.take (i := 25) rfl (by kernel_rfl) (by kernel_rfl) (by kernel_rfl) (by repeat (first | exact NP.body | apply NP.then | apply NP.cut | apply NP.inBlock | apply NP.round)) (wants_T rfl rfl rfl lk (by first | rfl | assumption)) rfl (still_mv rfl ot) (by exact trivial) ?_
      refine AD0.later rfl ?_
      refine AD.one (i := 24) (by kernel_rfl) ?_
      refine AStep.callP rfl (wants_T rfl rfl rfl lk (by first | rfl | assumption)) rfl rfl rfl Tryz.call8 (colsOf_vp) trivial ?_
      refine AD.take (i := 26) rfl (by kernel_rfl) (by kernel_rfl) (by kernel_rfl) (by repeat (first | exact NP.body | apply NP.then | apply NP.cut | apply NP.inBlock | apply NP.round)) (wants_T rfl rfl rfl lk (by first | rfl | assumption)) rfl (still_r2 (mk := Op.indexAddr 30) rfl ot ot (by first | exact ix_list Tryz.runUnderlying30 Tryz.sizeOf33 (j := 2) rfl (by decide) | exact ix_row Tryz.runUnderlying30 Tryz.sizeOf33 (j := 2) rfl (by decide))) (by exact trivial) (by intro h; cases h) ?_
      refine AD.take (i := 27) rfl (by kernel_rfl) (by kernel_rfl) (by kernel_rfl) (by repeat (first | exact NP.body | apply NP.then | apply NP.cut | apply NP.inBlock | apply NP.round)) (wants_T rfl rfl rfl lk (by first | rfl | assumption)) rfl (still_r1 (mk := fun y => Op.fieldAddr 33 y 1) rfl ot (by first | exact fa_ptr (off := 1) Tryz.runUnderlying33 rfl Tryz.sizeOf3 rfl | exact fa_iptr (off := 1) Tryz.runUnderlying33 rfl Tryz.sizeOf3 rfl)) (by exact trivial) (by intro h; cases h) ?_
      refine AD.one (i := 28) (by kernel_rfl) ?_
      refine AStep.still rfl (wants_T rfl rfl rfl lk (by first | rfl | assumption)) rfl (still_r1 (mk := Op.load 3) rfl ot (by first | exact ld_blk (k := 0) rfl rfl Tryz.isAgg3 rfl | exact ld_blk (k := 1) rfl rfl Tryz.isAgg3 rfl | exact ld_fm cC_len Tryz.isAgg3 (by first | assumption | omega) rfl | exact ld_fm0 cC_len Tryz.isAgg3 (by first | assumption | omega) rfl | exact ld_fm cV_len Tryz.isAgg3 (by first | assumption | omega) rfl | exact ld_fm0 cV_len Tryz.isAgg3 (by first | assumption | omega) rfl | exact ld_row (k := 0) cC_len rfl rfl rfl Tryz.isAgg3 (by first | assumption | omega) rfl | exact ld_row0 (k := 0) cC_len rfl rfl rfl Tryz.isAgg3 (by first | assumption | omega) rfl | exact ld_row (k := 1) cC_len rfl rfl rfl Tryz.isAgg3 (by first | assumption | omega) rfl | exact ld_row0 (k := 1) cC_len rfl rfl rfl Tryz.isAgg3 (by first | assumption | omega) rfl | exact ld_row (k := 0) cV_len rfl rfl rfl Tryz.isAgg3 (by first | assumption | omega) rfl | exact ld_row0 (k := 0) cV_len rfl rfl rfl Tryz.isAgg3 (by first | assumption | omega) rfl | exact ld_row (k := 1) cV_len rfl rfl rfl Tryz.isAgg3 (by first | assumption | omega) rfl | exact ld_row0 (k := 1) cV_len rfl rfl rfl Tryz.isAgg3 (by first | assumption | omega) rfl | exact ld_i Tryz.isAgg3 rfl)) ?_
      refine AD.take (i := 29) rfl (by kernel_rfl) (by kernel_rfl) (by kernel_rfl) (by repeat (first | exact NP.body | apply NP.then | apply NP.cut | apply NP.inBlock | apply NP.round)) (wants_T rfl rfl rfl lk (by first | rfl | assumption)) rfl (still_bin rfl ot ot bin_eql) (by exact trivial) (by intro h; cases h) ?_
      refine AD.take (i := 30) rfl (by kernel_rfl) (by kernel_rfl) (by kernel_rfl) (by repeat (first | exact NP.body | apply NP.then | apply NP.cut | apply NP.inBlock | apply NP.round)) (wants_plain rfl) rfl (still_pickT rfl ot (by first | rfl | assumption) ot) (by exact trivial) (by intro h; cases h) ?_
      refine AD.take (i := 31) rfl (by kernel_rfl) (by kernel_rfl) (by kernel_rfl) (by repeat (first | exact NP.body | apply NP.then | apply NP.cut | apply NP.inBlock | apply NP.round)) (wants_plain rfl) rfl (still_as rfl ot) (by exact trivial) (by intro h; cases h) ?_
      refine AD.wk (y := ⟨101, [(10, _)], [⟨b17, 26, 3, [_, _, _]⟩, ⟨b13, 26, 3, [_, _, _]⟩]⟩) (Wk.as_ rfl rfl ⟨lk, trivial⟩) rfl ?_
      refine AD.done (by kernel_rfl) ?_
      refine CD.ret ?_
      refine ⟨.inr rfl, _, [], List.nil_sublist _, ret_one Tryz.results3 (res_tmp (Nat.le_of_ble_eq_true rfl) lk), ?_⟩
      first | exact ⟨rfl, rfl⟩ | (refine ⟨vb ?_, rfl⟩; simp)
     ·exact absurd hg92 (by simp [hvg]; rw [← hvg]; exact ⟨rfl, rfl, rfl⟩)
    ·exact absurd hg84 (by simp)
   ·exact absurd hg80 (by simp)
  ·exact absurd hg76 (by simp)
 ·exact absurd hg72 (by simp)

set_option maxHeartbeats 4000000 in
set_option maxRecDepth 100000 in
theorem col3_vp {m : Int} (hm : (3, marksC) ∈ G) (hw : (0, wordsC) ∈ G) (ht : (1, typesC) ∈ G) (hG : (2, [Value.int .i64 m]) ∈ G) (a : Int) (a1 : -9223372036854775808 ≤ a) (a2 : a ≤ 9223372036854775807) (b : Int) (b1 : -9223372036854775808 ≤ b) (b2 : b ≤ 9223372036854775807) (s : ByteArray) (hs : s.size ≤ maxLen) (c : Int) (c1 : -9223372036854775808 ≤ c) (c2 : c ≤ 9223372036854775807) (p : Int) (p1 : -9223372036854775808 ≤ p) (p2 : p ≤ 9223372036854775807) (hk : pickedF p 4 = 3) : VP Tryz.prog G 3 [.v (.int .i64 a), .v (.int .i64 b), .v (.string s), .v (.int .i64 c), .v (.int .i64 p)] (.v (.bool true)) := by
 refine VC.body Tryz.func3 rfl Tryz.ntmps3 (Nat.le_of_ble_eq_true rfl) fun X0 w0 S00 => ?_
 have hk1 := kind_one nm_b
 rw [show kindAt colsL ⟨#[98]⟩ = (1, 0) by unfold kindAt; rw [at_b]; rfl] at hk1
 have hkv := Kind_one hm hw ht hG ⟨#[98]⟩ (by decide)
 rw [hk1] at hkv
 have hev := Eval_one hm hw ht hG a b s c ⟨#[98]⟩ (by decide)
 rw [eval_one' a b s c nm_b (j := 3) at_b] at hev
 have hen := Eval_one hm hw ht hG a b s c nonB (by decide)
 rw [eval_none] at hen
 have hbv := Bounds_at hm hw ht hG [oneO idB] (fine_one (by decide))
 rw [bounds_one] at hbv
 have hpk := picked_vp G p 4 p1 p2 (by decide)
 rw [hk] at hpk
 unfold vlD at hev hen
 unfold twoI at hkv
 unfold bdD bytesL at hbv
 dsimp only at hev hen hkv hbv
 have hrw : (rowL a b s c).getD 3 noVl = (rowL a b s c)[3]'(by rw [rowL_len]; decide) := rfl
 rw [hrw] at hev
 generalize hvg : (rowL a b s c)[3]'(by rw [rowL_len]; decide) = v at hev
 unfold cV at hev hen
 refine sr_ ?_
 refine os_ mv_ ?_
 refine nm_ [0, 1, 2, 3, 4] ?_
 refine sr_ ?_
 refine os_ mv_ ?_
 refine OD.callP (wants_plain rfl) rfl rfl rfl Tryz.call5 (hpk) ⟨ot, opd_const, trivial⟩ ?_
 refine os_ mv_ ?_
 refine OD.wk (Wk.as_ (n := 101) (l' := [(0, _), (1, _), (2, _), (3, _), (11, _)]) (S' := []) rfl rfl ⟨lk, lk, lk, lk, lk, trivial⟩) ?_
 refine OD.nil ?_
 refine sr_ ?_
 refine os_ mv_ ?_
 refine os_ mv_ ?_
 refine os_ mv_ ?_
 refine os_ mv_ ?_
 refine OD.callP (wants_plain rfl) rfl rfl rfl Tryz.call6 (rowOf_vp a a1 a2 b b1 b2 s hs c c1 c2) ⟨ot, ot, ot, ot, trivial⟩ ?_
 refine os_ mv_ ?_
 refine OD.wk (Wk.as_ (n := 101) (l' := [(11, _), (12, _)]) (S' := []) rfl rfl ⟨lk, lk, trivial⟩) ?_
 refine OD.nil ?_
 refine sr_ ?_
 refine OD.callP (wants_plain rfl) rfl rfl rfl Tryz.call8 (colsOf_vp) trivial ?_
 refine os_ mv_ ?_
 refine OD.callP (wants_plain rfl) rfl rfl rfl Tryz.call8 (colsOf_vp) trivial ?_
 refine os_ mv_ ?_
 refine os_ (ix_ 2 (h := by first | exact .l (j := 3) rfl (by decide) | exact .r (j := 3) rfl (by decide))) ?_
 refine os_ (fa_ 0) ?_
 refine os_ ld_ ?_
 refine OD.still (wants_plain rfl) rfl (still_bld (pl := [(0, _), (2, _)]) (ds := [_, _, _, _, _]) rfl Tryz.zeroValue35 Tryz.runUnderlying35 places35_Exe ⟨rfl, opd_const, rfl, ot, trivial⟩ rfl rfl) ?_
 refine OD.bldS (pl := numD 0 [_]) (zvs := [.int .i64 0, .int .i64 0, .int .i64 0, .string ⟨#[]⟩, .string ⟨#[]⟩]) (ds := [_, _, _, _, _]) (wants_plain rfl) rfl rfl Tryz.zeroValue35 Tryz.runUnderlying36 Tryz.sizeOf35 rfl rfl (by kernel_rfl) ⟨rfl, ot, trivial⟩ (by exact rfl) (fill_full (by exact rfl) (by exact rfl) (by exact rfl)) (fun b38 => ?_)
 refine OD.perm (perm_q11 (S1 := [⟨b38, 35, 1 * 5, List.flatMap cO ([oneO ⟨#[98]⟩])⟩]) (A := [])) ?_
 refine OD.giveL (t := 38) (Sq := [⟨b38, 35, 1 * 5, List.flatMap cO ([oneO ⟨#[98]⟩])⟩]) lk (ownL_row (g := cO) (sz := 5) (e := 35) (ls := [oneO ⟨#[98]⟩]) (Nat.le_refl _) (show 1 ≤ maxLen by decide)) (fm_len cO_len _) (perm_r11 (A := [])) ?_
 refine OD.callP (wants_plain rfl) rfl rfl rfl Tryz.call7 (hev) ⟨ot, ot, ot, trivial⟩ ?_
 refine os_ mv_ ?_
 refine os_ ex_ ?_
 refine os_ ex_ ?_
 refine OD.alloc (ds := [_, _, _]) (wants_plain rfl) rfl rfl Tryz.zeroValue26 rfl (fun b13 => ?_)
 refine OD.store (k := 0) (cs' := [_, _, _]) (wants_plain rfl) rfl rfl ot rfl rfl ot rfl rfl Tryz.sizeOf26 rfl rfl rfl ?_
 refine os_ mv_ ?_
 refine OD.wk (Wk.as_ (n := 101) (l' := [(11, _), (12, _), (13, _), (14, _)]) (S' := [⟨b13, 26, 3, [_, _, _]⟩]) rfl rfl ⟨lk, lk, lk, lk, trivial⟩) ?_
 refine OD.nil ?_
 refine sr_ ?_
 refine OD.callP (wants_plain rfl) rfl rfl rfl Tryz.call8 (colsOf_vp) trivial ?_
 refine OD.callP (wants_plain rfl) rfl rfl rfl Tryz.call8 (colsOf_vp) trivial ?_
 refine os_ mv_ ?_
 refine os_ (ix_ 2 (h := by first | exact .l (j := 3) rfl (by decide) | exact .r (j := 3) rfl (by decide))) ?_
 refine os_ (fa_ 0) ?_
 refine os_ ld_ ?_
 refine OD.still (wants_plain rfl) rfl (still_bld (pl := [(0, _), (2, _)]) (ds := [_, _, _, _, _]) rfl Tryz.zeroValue35 Tryz.runUnderlying35 places35_Exe ⟨rfl, opd_const, rfl, ot, trivial⟩ rfl rfl) ?_
 refine OD.bldS (pl := numD 0 [_]) (zvs := [.int .i64 0, .int .i64 0, .int .i64 0, .string ⟨#[]⟩, .string ⟨#[]⟩]) (ds := [_, _, _, _, _]) (wants_plain rfl) rfl rfl Tryz.zeroValue35 Tryz.runUnderlying36 Tryz.sizeOf35 rfl rfl (by kernel_rfl) ⟨rfl, ot, trivial⟩ (by exact rfl) (fill_full (by exact rfl) (by exact rfl) (by exact rfl)) (fun b50 => ?_)
 refine OD.perm (perm_q11 (S1 := [⟨b50, 35, 1 * 5, List.flatMap cO ([oneO ⟨#[98]⟩])⟩]) (A := [_])) ?_
 refine OD.giveL (t := 50) (Sq := [⟨b50, 35, 1 * 5, List.flatMap cO ([oneO ⟨#[98]⟩])⟩]) lk (ownL_row (g := cO) (sz := 5) (e := 35) (ls := [oneO ⟨#[98]⟩]) (Nat.le_refl _) (show 1 ≤ maxLen by decide)) (fm_len cO_len _) (perm_r11 (A := [_])) ?_
 refine OD.callP (wants_plain rfl) rfl rfl rfl Tryz.call9 (hkv) ⟨ot, ot, trivial⟩ ?_
 refine os_ mv_ ?_
 refine os_ ex_ ?_
 refine os_ ex_ ?_
 refine os_ mv_ ?_
 refine os_ mv_ ?_
 refine OD.wk (Wk.as_ (n := 101) (l' := [(11, _), (12, _), (13, _), (14, _), (15, _), (16, _)]) (S' := [⟨b13, 26, 3, [_, _, _]⟩]) rfl rfl ⟨lk, lk, lk, lk, lk, lk, trivial⟩) ?_
 refine OD.nil ?_
 refine sr_ ?_
 refine OD.callP (wants_plain rfl) rfl rfl rfl Tryz.call8 (colsOf_vp) trivial ?_
 refine os_ mv_ ?_
 refine OD.still (wants_plain rfl) rfl (still_bld (pl := [(0, _), (2, _)]) (ds := [_, _, _, _, _]) rfl Tryz.zeroValue35 Tryz.runUnderlying35 places35_Exe ⟨rfl, opd_const, rfl, opd_const, trivial⟩ rfl rfl) ?_
 refine OD.bldS (pl := numD 0 [_]) (zvs := [.int .i64 0, .int .i64 0, .int .i64 0, .string ⟨#[]⟩, .string ⟨#[]⟩]) (ds := [_, _, _, _, _]) (wants_plain rfl) rfl rfl Tryz.zeroValue35 Tryz.runUnderlying36 Tryz.sizeOf35 rfl rfl (by kernel_rfl) ⟨rfl, ot, trivial⟩ (by exact rfl) (fill_full (by exact rfl) (by exact rfl) (by exact rfl)) (fun b58 => ?_)
 refine OD.perm (perm_q11 (S1 := [⟨b58, 35, 1 * 5, List.flatMap cO ([oneO nonB])⟩]) (A := [_])) ?_
 refine OD.giveL (t := 58) (Sq := [⟨b58, 35, 1 * 5, List.flatMap cO ([oneO nonB])⟩]) lk (ownL_row (g := cO) (sz := 5) (e := 35) (ls := [oneO nonB]) (Nat.le_refl _) (show 1 ≤ maxLen by decide)) (fm_len cO_len _) (perm_r11 (A := [_])) ?_
 refine OD.callP (wants_plain rfl) rfl rfl rfl Tryz.call7 (hen) ⟨ot, ot, ot, trivial⟩ ?_
 refine os_ mv_ ?_
 refine os_ ex_ ?_
 refine os_ ex_ ?_
 refine OD.alloc (ds := [_, _, _]) (wants_plain rfl) rfl rfl Tryz.zeroValue26 rfl (fun b17 => ?_)
 refine OD.store (k := 0) (cs' := [_, _, _]) (wants_plain rfl) rfl rfl ot rfl rfl ot rfl rfl Tryz.sizeOf26 rfl rfl rfl ?_
 refine os_ mv_ ?_
 refine OD.wk (Wk.as_ (n := 101) (l' := [(11, _), (12, _), (13, _), (14, _), (15, _), (16, _), (18, _)]) (S' := [⟨b17, 26, 3, [_, _, _]⟩, ⟨b13, 26, 3, [_, _, _]⟩]) rfl rfl ⟨lk, lk, lk, lk, lk, lk, lk, trivial⟩) ?_
 refine OD.nil ?_
 refine sr_ ?_
 refine OD.callP (wants_plain rfl) rfl rfl rfl Tryz.call8 (colsOf_vp) trivial ?_
 refine OD.still (wants_plain rfl) rfl (still_bld (pl := [(0, _), (2, _)]) (ds := [_, _, _, _, _]) rfl Tryz.zeroValue35 Tryz.runUnderlying35 places35_Exe ⟨rfl, opd_const, rfl, opd_const, trivial⟩ rfl rfl) ?_
 refine OD.bldS (pl := numD 0 [_]) (zvs := [.int .i64 0, .int .i64 0, .int .i64 0, .string ⟨#[]⟩, .string ⟨#[]⟩]) (ds := [_, _, _, _, _]) (wants_plain rfl) rfl rfl Tryz.zeroValue35 Tryz.runUnderlying36 Tryz.sizeOf35 rfl rfl (by kernel_rfl) ⟨rfl, ot, trivial⟩ (by exact rfl) (fill_full (by exact rfl) (by exact rfl) (by exact rfl)) (fun b65 => ?_)
 refine OD.perm (perm_q11 (S1 := [⟨b65, 35, 1 * 5, List.flatMap cO ([oneO idB])⟩]) (A := [_, _])) ?_
 refine OD.giveL (t := 65) (Sq := [⟨b65, 35, 1 * 5, List.flatMap cO ([oneO idB])⟩]) lk (ownL_row (g := cO) (sz := 5) (e := 35) (ls := [oneO idB]) (Nat.le_refl _) (show 1 ≤ maxLen by decide)) (fm_len cO_len _) (perm_r11 (A := [_, _])) ?_
 refine OD.callP (wants_plain rfl) rfl rfl rfl Tryz.call10 (hbv) ⟨ot, ot, trivial⟩ ?_
 refine os_ mv_ ?_
 refine os_ ex_ ?_
 refine os_ ex_ ?_
 refine os_ ex_ ?_
 refine os_ mv_ ?_
 refine os_ mv_ ?_
 refine os_ mv_ ?_
 refine OD.wk (Wk.as_ (n := 101) (l' := [(11, _), (12, _), (13, _), (14, _), (15, _), (16, _), (18, _), (21, _)]) (S' := [⟨b17, 26, 3, [_, _, _]⟩, ⟨b13, 26, 3, [_, _, _]⟩]) rfl rfl ⟨lk, lk, lk, lk, lk, lk, lk, lk, trivial⟩) ?_
 refine OD.nil ?_
 refine CD.seq ?_
 refine CD.draw (bks _) (by kernel_rfl) (fun _ h => h) ?_
 refine AD0.take (i := 0) rfl (by kernel_rfl) (by kernel_rfl) (by kernel_rfl) (by repeat (first | exact NP.body | apply NP.then | apply NP.cut | apply NP.inBlock | apply NP.round)) (wants_plain rfl) rfl (still_mv rfl ot) (by exact trivial) ?_
 refine AD0.take (i := 1) rfl (by kernel_rfl) (by kernel_rfl) (by kernel_rfl) (by repeat (first | exact NP.body | apply NP.then | apply NP.cut | apply NP.inBlock | apply NP.round)) (wants_plain rfl) rfl (still_bin rfl ot opd_const bin_eql) (by exact trivial) ?_
 refine AD0.take (i := 2) rfl (by kernel_rfl) (by kernel_rfl) (by kernel_rfl) (by repeat (first | exact NP.body | apply NP.then | apply NP.cut | apply NP.inBlock | apply NP.round)) (wants_plain rfl) rfl (still_mv rfl ot) (by exact trivial) ?_
 refine AD0.split (t := 72) lk (fun hg72 => ?_) (fun hg72 => ?_)
 ·have hg72' := hg72; (try simp only [V.cnd, ne_eq] at hg72')
  refine AD0.take (i := 3) rfl (by kernel_rfl) (by kernel_rfl) (by kernel_rfl) (by repeat (first | exact NP.body | apply NP.then | apply NP.cut | apply NP.inBlock | apply NP.round)) (wants_T rfl rfl rfl lk (by first | rfl | assumption)) rfl (still_mv rfl ot) (by exact trivial) ?_
  refine AD0.take (i := 4) rfl (by kernel_rfl) (by kernel_rfl) (by kernel_rfl) (by repeat (first | exact NP.body | apply NP.then | apply NP.cut | apply NP.inBlock | apply NP.round)) (wants_T rfl rfl rfl lk (by first | rfl | assumption)) rfl (still_bin rfl ot opd_const bin_eql) (by exact trivial) ?_
  refine AD0.take (i := 5) rfl (by kernel_rfl) (by kernel_rfl) (by kernel_rfl) (by repeat (first | exact NP.body | apply NP.then | apply NP.cut | apply NP.inBlock | apply NP.round)) (wants_plain rfl) rfl (still_pickT rfl ot (by first | rfl | assumption) ot) (by exact trivial) ?_
  refine AD0.take (i := 6) rfl (by kernel_rfl) (by kernel_rfl) (by kernel_rfl) (by repeat (first | exact NP.body | apply NP.then | apply NP.cut | apply NP.inBlock | apply NP.round)) (wants_plain rfl) rfl (still_mv rfl ot) (by exact trivial) ?_
  refine AD0.split (t := 76) lk (fun hg76 => ?_) (fun hg76 => ?_)
  ·have hg76' := hg76; (try simp only [V.cnd, ne_eq] at hg76')
   refine AD0.take (i := 7) rfl (by kernel_rfl) (by kernel_rfl) (by kernel_rfl) (by repeat (first | exact NP.body | apply NP.then | apply NP.cut | apply NP.inBlock | apply NP.round)) (wants_T rfl rfl rfl lk (by first | rfl | assumption)) rfl (still_mv rfl ot) (by exact trivial) ?_
   refine AD0.take (i := 8) rfl (by kernel_rfl) (by kernel_rfl) (by kernel_rfl) (by repeat (first | exact NP.body | apply NP.then | apply NP.cut | apply NP.inBlock | apply NP.round)) (wants_T rfl rfl rfl lk (by first | rfl | assumption)) rfl (still_bin rfl ot opd_const bin_eql) (by exact trivial) ?_
   refine AD0.take (i := 9) rfl (by kernel_rfl) (by kernel_rfl) (by kernel_rfl) (by repeat (first | exact NP.body | apply NP.then | apply NP.cut | apply NP.inBlock | apply NP.round)) (wants_plain rfl) rfl (still_pickT rfl ot (by first | rfl | assumption) ot) (by exact trivial) ?_
   refine AD0.take (i := 10) rfl (by kernel_rfl) (by kernel_rfl) (by kernel_rfl) (by repeat (first | exact NP.body | apply NP.then | apply NP.cut | apply NP.inBlock | apply NP.round)) (wants_plain rfl) rfl (still_mv rfl ot) (by exact trivial) ?_
   refine AD0.split (t := 80) lk (fun hg80 => ?_) (fun hg80 => ?_)
   ·have hg80' := hg80; (try simp only [V.cnd, ne_eq] at hg80')
    refine AD0.take (i := 11) rfl (by kernel_rfl) (by kernel_rfl) (by kernel_rfl) (by repeat (first | exact NP.body | apply NP.then | apply NP.cut | apply NP.inBlock | apply NP.round)) (wants_T rfl rfl rfl lk (by first | rfl | assumption)) rfl (still_mv rfl ot) (by exact trivial) ?_
    refine AD0.take (i := 12) rfl (by kernel_rfl) (by kernel_rfl) (by kernel_rfl) (by repeat (first | exact NP.body | apply NP.then | apply NP.cut | apply NP.inBlock | apply NP.round)) (wants_T rfl rfl rfl lk (by first | rfl | assumption)) rfl (still_bin rfl ot opd_const bin_eql) (by exact trivial) ?_
    refine AD0.take (i := 13) rfl (by kernel_rfl) (by kernel_rfl) (by kernel_rfl) (by repeat (first | exact NP.body | apply NP.then | apply NP.cut | apply NP.inBlock | apply NP.round)) (wants_plain rfl) rfl (still_pickT rfl ot (by first | rfl | assumption) ot) (by exact trivial) ?_
    refine AD0.take (i := 14) rfl (by kernel_rfl) (by kernel_rfl) (by kernel_rfl) (by repeat (first | exact NP.body | apply NP.then | apply NP.cut | apply NP.inBlock | apply NP.round)) (wants_plain rfl) rfl (still_mv rfl ot) (by exact trivial) ?_
    refine AD0.split (t := 84) lk (fun hg84 => ?_) (fun hg84 => ?_)
    ·have hg84' := hg84; (try simp only [V.cnd, ne_eq] at hg84')
     refine AD0.take (i := 15) rfl (by kernel_rfl) (by kernel_rfl) (by kernel_rfl) (by repeat (first | exact NP.body | apply NP.then | apply NP.cut | apply NP.inBlock | apply NP.round)) (wants_T rfl rfl rfl lk (by first | rfl | assumption)) rfl (still_r1 (mk := Op.load 26) rfl ot (by first | exact ld_blks (k := 1) (ds := [_, _, _]) rfl rfl Tryz.isAgg26 Tryz.sizeOf26 rfl rfl | exact ld_fms cC_len Tryz.isAgg26 Tryz.sizeOf26 (by first | assumption | omega) | exact ld_fms cV_len Tryz.isAgg26 Tryz.sizeOf26 (by first | assumption | omega) | exact ld_rows (k := 0) cC_len rfl rfl rfl Tryz.isAgg26 Tryz.sizeOf26 (by first | assumption | omega) | exact ld_rows (k := 1) cC_len rfl rfl rfl Tryz.isAgg26 Tryz.sizeOf26 (by first | assumption | omega) | exact ld_rows (k := 0) cV_len rfl rfl rfl Tryz.isAgg26 Tryz.sizeOf26 (by first | assumption | omega) | exact ld_rows (k := 1) cV_len rfl rfl rfl Tryz.isAgg26 Tryz.sizeOf26 (by first | assumption | omega) | exact ld_is (ds := [_, _, _]) Tryz.isAgg26 Tryz.sizeOf26 rfl rfl)) (by first | exact trivial | exact safe_blk (k0 := 0) rfl rfl | exact safe_blk (k0 := 1) rfl rfl) ?_
     refine AD0.take (i := 16) rfl (by kernel_rfl) (by kernel_rfl) (by kernel_rfl) (by repeat (first | exact NP.body | apply NP.then | apply NP.cut | apply NP.inBlock | apply NP.round)) (wants_T rfl rfl rfl lk (by first | rfl | assumption)) rfl (still_mv rfl ot) (by exact trivial) ?_
     refine AD0.take (i := 17) rfl (by kernel_rfl) (by kernel_rfl) (by kernel_rfl) (by repeat (first | exact NP.body | apply NP.then | apply NP.cut | apply NP.inBlock | apply NP.round)) (wants_T rfl rfl rfl lk (by first | rfl | assumption)) rfl (still_mv rfl ot) (by exact trivial) ?_
     refine AD0.take (i := 18) rfl (by kernel_rfl) (by kernel_rfl) (by kernel_rfl) (by repeat (first | exact NP.body | apply NP.then | apply NP.cut | apply NP.inBlock | apply NP.round)) (wants_T rfl rfl rfl lk (by first | rfl | assumption)) rfl (still_r2 (mk := Op.indexAddr 23) rfl ot ot (by first | exact ix_list Tryz.runUnderlying23 Tryz.sizeOf26 (j := 3) rfl (by rw [rowL_len]; decide) | exact ix_row Tryz.runUnderlying23 Tryz.sizeOf26 (j := 3) rfl (by rw [rowL_len]; decide))) (by exact trivial) ?_
     refine AD0.take (i := 19) rfl (by kernel_rfl) (by kernel_rfl) (by kernel_rfl) (by repeat (first | exact NP.body | apply NP.then | apply NP.cut | apply NP.inBlock | apply NP.round)) (wants_T rfl rfl rfl lk (by first | rfl | assumption)) rfl (still_r1 (mk := Op.load 26) rfl ot (by first | exact ld_blks (k := 0) (ds := [_, _, _]) rfl rfl Tryz.isAgg26 Tryz.sizeOf26 rfl rfl | exact ld_blks (k := 1) (ds := [_, _, _]) rfl rfl Tryz.isAgg26 Tryz.sizeOf26 rfl rfl | exact ld_fms cC_len Tryz.isAgg26 Tryz.sizeOf26 (by first | assumption | omega) | exact ld_fms cV_len Tryz.isAgg26 Tryz.sizeOf26 (by first | assumption | omega) | exact ld_rows (k := 0) cC_len rfl rfl rfl Tryz.isAgg26 Tryz.sizeOf26 (by first | assumption | omega) | exact ld_rows (k := 1) cC_len rfl rfl rfl Tryz.isAgg26 Tryz.sizeOf26 (by first | assumption | omega) | exact ld_rows (k := 0) cV_len rfl rfl rfl Tryz.isAgg26 Tryz.sizeOf26 (by first | assumption | omega) | exact ld_rows (k := 1) cV_len rfl rfl rfl Tryz.isAgg26 Tryz.sizeOf26 (by first | assumption | omega) | exact ld_is (ds := [_, _, _]) Tryz.isAgg26 Tryz.sizeOf26 rfl rfl)) (by first | exact trivial | exact safe_blk (k0 := 0) rfl rfl | exact safe_blk (k0 := 1) rfl rfl) ?_
     refine AD0.take (i := 20) rfl (by kernel_rfl) (by kernel_rfl) (by kernel_rfl) (by repeat (first | exact NP.body | apply NP.then | apply NP.cut | apply NP.inBlock | apply NP.round)) (wants_T rfl rfl rfl lk (by first | rfl | assumption)) rfl (still_eqS (us := [_, _, _]) (us' := [_, _, _]) rfl ot ot Tryz.eqGuardType26 (Vl.eqs26 v _)) (by exact trivial) ?_
     refine AD0.take (i := 21) rfl (by kernel_rfl) (by kernel_rfl) (by kernel_rfl) (by repeat (first | exact NP.body | apply NP.then | apply NP.cut | apply NP.inBlock | apply NP.round)) (wants_plain rfl) rfl (still_pickT rfl ot (by first | rfl | assumption) ot) (by exact trivial) ?_
     refine AD0.take (i := 22) rfl (by kernel_rfl) (by kernel_rfl) (by kernel_rfl) (by repeat (first | exact NP.body | apply NP.then | apply NP.cut | apply NP.inBlock | apply NP.round)) (wants_plain rfl) rfl (still_mv rfl ot) (by exact trivial) ?_
     refine AD0.split (t := 92) lk (fun hg92 => ?_) (fun hg92 => ?_)
     ·have hg92' := hg92; (try simp only [V.cnd, ne_eq] at hg92')
      refine AD0.take (i := 23) rfl (by kernel_rfl) (by kernel_rfl) (by kernel_rfl) (by repeat (first | exact NP.body | apply NP.then | apply NP.cut | apply NP.inBlock | apply NP.round)) (wants_T rfl rfl rfl lk (by first | rfl | assumption)) rfl (still_mv rfl ot) (by exact trivial) ?_
      refine AD0.take (i := 25) rfl (by kernel_rfl) (by kernel_rfl) (by kernel_rfl) (by repeat (first | exact NP.body | apply NP.then | apply NP.cut | apply NP.inBlock | apply NP.round)) (wants_T rfl rfl rfl lk (by first | rfl | assumption)) rfl (still_mv rfl ot) (by exact trivial) ?_
      refine AD0.later rfl ?_
      refine AD.one (i := 24) (by kernel_rfl) ?_
      refine AStep.callP rfl (wants_T rfl rfl rfl lk (by first | rfl | assumption)) rfl rfl rfl Tryz.call8 (colsOf_vp) trivial ?_
      refine AD.take (i := 26) rfl (by kernel_rfl) (by kernel_rfl) (by kernel_rfl) (by repeat (first | exact NP.body | apply NP.then | apply NP.cut | apply NP.inBlock | apply NP.round)) (wants_T rfl rfl rfl lk (by first | rfl | assumption)) rfl (still_r2 (mk := Op.indexAddr 30) rfl ot ot (by first | exact ix_list Tryz.runUnderlying30 Tryz.sizeOf33 (j := 3) rfl (by decide) | exact ix_row Tryz.runUnderlying30 Tryz.sizeOf33 (j := 3) rfl (by decide))) (by exact trivial) (by intro h; cases h) ?_
      refine AD.take (i := 27) rfl (by kernel_rfl) (by kernel_rfl) (by kernel_rfl) (by repeat (first | exact NP.body | apply NP.then | apply NP.cut | apply NP.inBlock | apply NP.round)) (wants_T rfl rfl rfl lk (by first | rfl | assumption)) rfl (still_r1 (mk := fun y => Op.fieldAddr 33 y 1) rfl ot (by first | exact fa_ptr (off := 1) Tryz.runUnderlying33 rfl Tryz.sizeOf3 rfl | exact fa_iptr (off := 1) Tryz.runUnderlying33 rfl Tryz.sizeOf3 rfl)) (by exact trivial) (by intro h; cases h) ?_
      refine AD.one (i := 28) (by kernel_rfl) ?_
      refine AStep.still rfl (wants_T rfl rfl rfl lk (by first | rfl | assumption)) rfl (still_r1 (mk := Op.load 3) rfl ot (by first | exact ld_blk (k := 0) rfl rfl Tryz.isAgg3 rfl | exact ld_blk (k := 1) rfl rfl Tryz.isAgg3 rfl | exact ld_fm cC_len Tryz.isAgg3 (by first | assumption | omega) rfl | exact ld_fm0 cC_len Tryz.isAgg3 (by first | assumption | omega) rfl | exact ld_fm cV_len Tryz.isAgg3 (by first | assumption | omega) rfl | exact ld_fm0 cV_len Tryz.isAgg3 (by first | assumption | omega) rfl | exact ld_row (k := 0) cC_len rfl rfl rfl Tryz.isAgg3 (by first | assumption | omega) rfl | exact ld_row0 (k := 0) cC_len rfl rfl rfl Tryz.isAgg3 (by first | assumption | omega) rfl | exact ld_row (k := 1) cC_len rfl rfl rfl Tryz.isAgg3 (by first | assumption | omega) rfl | exact ld_row0 (k := 1) cC_len rfl rfl rfl Tryz.isAgg3 (by first | assumption | omega) rfl | exact ld_row (k := 0) cV_len rfl rfl rfl Tryz.isAgg3 (by first | assumption | omega) rfl | exact ld_row0 (k := 0) cV_len rfl rfl rfl Tryz.isAgg3 (by first | assumption | omega) rfl | exact ld_row (k := 1) cV_len rfl rfl rfl Tryz.isAgg3 (by first | assumption | omega) rfl | exact ld_row0 (k := 1) cV_len rfl rfl rfl Tryz.isAgg3 (by first | assumption | omega) rfl | exact ld_i Tryz.isAgg3 rfl)) ?_
      refine AD.take (i := 29) rfl (by kernel_rfl) (by kernel_rfl) (by kernel_rfl) (by repeat (first | exact NP.body | apply NP.then | apply NP.cut | apply NP.inBlock | apply NP.round)) (wants_T rfl rfl rfl lk (by first | rfl | assumption)) rfl (still_bin rfl ot ot bin_eql) (by exact trivial) (by intro h; cases h) ?_
      refine AD.take (i := 30) rfl (by kernel_rfl) (by kernel_rfl) (by kernel_rfl) (by repeat (first | exact NP.body | apply NP.then | apply NP.cut | apply NP.inBlock | apply NP.round)) (wants_plain rfl) rfl (still_pickT rfl ot (by first | rfl | assumption) ot) (by exact trivial) (by intro h; cases h) ?_
      refine AD.take (i := 31) rfl (by kernel_rfl) (by kernel_rfl) (by kernel_rfl) (by repeat (first | exact NP.body | apply NP.then | apply NP.cut | apply NP.inBlock | apply NP.round)) (wants_plain rfl) rfl (still_as rfl ot) (by exact trivial) (by intro h; cases h) ?_
      refine AD.wk (y := ⟨101, [(10, _)], [⟨b17, 26, 3, [_, _, _]⟩, ⟨b13, 26, 3, [_, _, _]⟩]⟩) (Wk.as_ rfl rfl ⟨lk, trivial⟩) rfl ?_
      refine AD.done (by kernel_rfl) ?_
      refine CD.ret ?_
      refine ⟨.inr rfl, _, [], List.nil_sublist _, ret_one Tryz.results3 (res_tmp (Nat.le_of_ble_eq_true rfl) lk), ?_⟩
      first | exact ⟨rfl, rfl⟩ | (refine ⟨vb ?_, rfl⟩; simp)
     ·exact absurd hg92 (by simp [hvg]; rw [← hvg]; exact ⟨rfl, rfl, rfl⟩)
    ·exact absurd hg84 (by simp)
   ·exact absurd hg80 (by simp)
  ·exact absurd hg76 (by simp)
 ·exact absurd hg72 (by simp)

theorem colb_vp {m : Int} (hm : (3, marksC) ∈ G) (hw : (0, wordsC) ∈ G) (ht : (1, typesC) ∈ G) (hG : (2, [Value.int .i64 m]) ∈ G) (a : Int) (a1 : -9223372036854775808 ≤ a) (a2 : a ≤ 9223372036854775807) (b : Int) (b1 : -9223372036854775808 ≤ b) (b2 : b ≤ 9223372036854775807) (s : ByteArray) (hs : s.size ≤ maxLen) (c : Int) (c1 : -9223372036854775808 ≤ c) (c2 : c ≤ 9223372036854775807) (p : Int) (p1 : -9223372036854775808 ≤ p) (p2 : p ≤ 9223372036854775807) : VP Tryz.prog G 3 [.v (.int .i64 a), .v (.int .i64 b), .v (.string s), .v (.int .i64 c), .v (.int .i64 p)] (.v (.bool true)) := by
 have hb := pickedF_bd p (show (1 : Int) ≤ 4 by decide)
 have h4 : pickedF p 4 = 0 ∨ pickedF p 4 = 1 ∨ pickedF p 4 = 2 ∨ pickedF p 4 = 3 := by omega
 rcases h4 with hj | hj | hj | hj
 ·exact col0_vp hm hw ht hG a a1 a2 b b1 b2 s hs c c1 c2 p p1 p2 hj
 ·exact col1_vp hm hw ht hG a a1 a2 b b1 b2 s hs c c1 c2 p p1 p2 hj
 ·exact col2_vp hm hw ht hG a a1 a2 b b1 b2 s hs c c1 c2 p p1 p2 hj
 ·exact col3_vp hm hw ht hG a a1 a2 b b1 b2 s hs c c1 c2 p p1 p2 hj

theorem walkEvalColumn (a : Int) (wa : (Lit.int .i64 a).wf = true) (b : Int) (wb : (Lit.int .i64 b).wf = true) (s : ByteArray) (ws : s.size ≤ maxLen) (c : Int) (wc : (Lit.int .i64 c).wf = true) (p : Int) (wp : (Lit.int .i64 p).wf = true) (w : World) (h1 : MarksTab w) (h2 : WordsTab w) (h3 : TypesTab w) {m : Int} (hm : Tab.TabAt w 2 [Value.int .i64 m]) : Calls Tryz.prog 3 #[.int .i64 a, .int .i64 b, .string s, .int .i64 c, .int .i64 p] w fun e w' => e = .returned (.bool true) ∧ Below w.heap.size w w' :=
 (colb_vp (G := TGM m) tm1 tm2 tm3 tm4 a (wf_bd wa).1 (wf_bd wa).2 b (wf_bd wb).1 (wf_bd wb).2 s ws c (wf_bd wc).1 (wf_bd wc).2 p (wf_bd wp).1 (wf_bd wp).2).runL (tgmx h1 h2 h3 hm) (vs := [_, _, _, _, _]) (RepL.vs w _ [_, _, _, _, _])

end Go.Proofs.YtfooincnmobemaaGreatDoor.Ex
