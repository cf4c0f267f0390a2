/-
  What the proof of BoundsHold leans on, part 5 of 5: walks of the program's functions at the level of values, and plain facts of what they compute.
-/
import Derived.Test.YtfooincnmobemaaGreatDoorPBoundsHold4
namespace Go.Proofs.YtfooincnmobemaaGreatDoor.Ex
open Go.RowKit V Pk Vl Go.Proofs.YtfooincnmobemaaGreatDoor.Nm Go.Proofs.YtfooincnmobemaaGreatDoor.Pc Go.Proofs.YtfooincnmobemaaGreatDoor.Cd
set_option linter.unusedVariables false
set_option linter.unusedSimpArgs false

open Go.Lib (compareBytes)
/-- Where what ends ahead of a place begins. -/
def opK (ops : List OpL) (i : Nat) : Int := (ops.getD i (bareOp 0)).k
def begF (ops : List OpL) : Nat → Int → Nat
 | 0, _ => 0
 | i + 1, need => if need + (popsF (opK ops i) - 1) > 0 then begF ops i (need + (popsF (opK ops i) - 1)) else i
theorem opK_at {ops : List OpL} {i : Nat} (h : i < ops.length) : opK ops i = ops[i].k := by unfold opK; rw [List.getD_eq_getElem?_getD, List.getElem?_eq_getElem h]; rfl
theorem err_up {h h' : Int} {o : OpL} (he : opErr h o = 0) (hp : popsF o.k ≤ h') : opErr h' o = 0 := by
 unfold opErr at he ⊢
 split at he
 ·cases he
 ·rename_i q1; rw [if_neg q1]
  split at he
  ·rename_i h2; exact absurd he h2
  ·rename_i q2; rw [if_neg q2]
   split at he
   ·cases he
   ·rename_i q3; rw [if_neg q3]
    split at he
    ·rename_i h4; exact absurd he h4.2
    ·rename_i q4; rw [if_neg q4, if_neg (by omega)]
theorem runs_last {ops : List OpL} {n : Nat} {h : Int} (hn : n < ops.length) (e : runs 0 (ops.take (n + 1)) = some h) : ∃ h', runs 0 (ops.take n) = some h' ∧ opErr h' ops[n] = 0 ∧ h = h' + (1 - popsF ops[n].k) := by
 rw [List.take_succ_eq_append_getElem hn, runs_append] at e
 cases hr : runs 0 (ops.take n) with
 | none => rw [hr] at e; cases e
 | some h' =>
  rw [hr, Option.bind_some, runs] at e
  split at e
  ·rename_i he
   rw [runs] at e
   cases e
   exact ⟨h', rfl, he, rfl⟩
  ·cases e
theorem beg_spec {ops : List OpL} : ∀ (n : Nat) (need h : Int), n ≤ ops.length → runs 0 (ops.take n) = some h → 1 ≤ need → need ≤ h →
  begF ops n need < n ∧ runs 0 (ops.take (begF ops n need)) = some (h - need) ∧ ∀ k : Int, 0 ≤ k → runs k ((ops.take n).drop (begF ops n need)) = some (k + need)
 | 0, need, h, _, e, h1, h2 => by rw [List.take_zero, runs] at e; cases e; omega
 | n + 1, need, h, hn, e, h1, h2 => by
  have hlt : n < ops.length := by omega
  obtain ⟨h', e1, e2, e3⟩ := runs_last hlt e
  have hpb := pops_bd ops[n].k
  have hpo := (err_pops e2).1
  have hdrop : ∀ m, m ≤ n → (ops.take (n + 1)).drop m = (ops.take n).drop m ++ [ops[n]] := fun m hm => by
   rw [List.take_succ_eq_append_getElem hlt, List.drop_append, show m - (ops.take n).length = 0 by rw [List.length_take]; omega, List.drop_zero]
  rw [begF, opK_at hlt]
  by_cases hc : need + (popsF ops[n].k - 1) > 0
  ·rw [if_pos hc]
   obtain ⟨q1, q2, q3⟩ := beg_spec n (need + (popsF ops[n].k - 1)) h' (by omega) e1 (by omega) (by omega)
   refine ⟨by omega, by rw [q2]; congr 1; omega, fun k hk => ?_⟩
   rw [hdrop _ (by omega), runs_append, q3 k hk, Option.bind_some, runs, if_pos (err_up e2 (by omega)), runs]
   congr 1; omega
  ·rw [if_neg hc]
   refine ⟨by omega, by rw [e1]; congr 1; omega, fun k hk => ?_⟩
   rw [hdrop n (Nat.le_refl _), List.drop_of_length_le (by rw [List.length_take]; omega), List.nil_append, runs, if_pos (err_up e2 (by omega)), runs]
   congr 1; omega
def keyCol (key : ByteArray) (o : OpL) : Bool := o.k == 2 && o.nm.toList == key.toList
def litNN (o : OpL) : Bool := o.k == 1 && !(o.v.k == 0)
abbrev BdL := List UInt8 × List UInt8
def lowF (k : List UInt8) (b : BdL) : BdL := if compareBytes k b.1 > 0 then (k, b.2) else b
def highF (k : List UInt8) (b : BdL) : BdL := if b.2.length = 0 ∨ compareBytes k b.2 < 0 then (b.1, k) else b
/-- Bounds that a comparison of the key narrows: key, at a place; the value's key; what is compared, and whether it must not be. -/
def cutB (kc : Int) (eq not : Bool) (k : List UInt8) (b : BdL) : BdL :=
  bif eq || (kc == 0) != not then highF k (bif eq || (kc == 0) == not then lowF k b else b) else bif eq || (kc == 0) == not then lowF k b else b
def litK (ops : List OpL) : List UInt8 := (encR [(ops.getD (idxG litNN (ops.take 2)).toNat (bareOp 0)).v]).1
/-- Bounds narrowed by what is no AND; the ops without the NOT behind them. -/
def leafB (key : ByteArray) (ops : List OpL) (not : Bool) (b : BdL) : BdL :=
  if ops.length ≠ 3 ∨ (not = true ∧ opK ops (ops.length - 1) ≠ 7) ∨ (opK ops (ops.length - 1) ≠ 6 ∧ opK ops (ops.length - 1) ≠ 7) then b
  else if idxG (keyCol key) (ops.take 2) < 0 ∨ idxG litNN (ops.take 2) < 0 then b
  else cutB (idxG (keyCol key) (ops.take 2)) (opK ops (ops.length - 1) == 6) not (litK ops) b
/-- Bounds narrowed by an expression. -/
def narF (key : ByteArray) : Nat → List OpL → BdL → BdL
  | 0, _, b => b
  | f + 1, ops, b =>
    if opK ops (ops.length - 1) = 3 then narF key f ((ops.take (ops.length - 1)).drop (begF ops (ops.length - 1) 1)) (narF key f (ops.take (begF ops (ops.length - 1) 1)) b)
    else if opK ops (ops.length - 1) = 5 then leafB key (ops.take (ops.length - 1)) true b
    else leafB key ops false b
variable {G : List (Nat × List Value)} {m : Int}

set_option maxHeartbeats 4000000 in
set_option maxRecDepth 100000 in
theorem begins_vp (ops : List OpL) (h40 : ops.length ≤ 40) (n : Nat) (hn : n ≤ ops.length) (h : Int) (hr : runs 0 (ops.take n) = some h) (h1 : 1 ≤ h) : VP Tryz.prog G 36 [.list 5 (ops.flatMap cO) ops.length, .v (.int .i64 (n : Nat))] (.v (.int .i64 (begF ops n 1 : Nat))) := by
 refine VC.body Tryz.func36 rfl Tryz.ntmps36 (Nat.le_of_ble_eq_true rfl) fun X0 w0 S00 => ?_
 refine sr_ ?_
 refine os_ mv_ ?_
 refine nm_ [0, 1] ?_
 refine sr_ ?_
 refine os_ mv_ ?_
 refine os_ mv_ ?_
 refine nm_ [0, 5] ?_
 refine CD.seq ?_
 refine sr_ ?_
 refine os_ mv_ ?_
 refine nm_ [0, 5, 6] ?_
 refine CD.block ?_
 refine CD.wk (Wk.asS (n := 22) (l' := [(0, .list 5 (ops.flatMap cO) ops.length), (5, .v (.int .i64 (n : Nat))), (6, .v (.int .i64 (1)))]) (S' := []) rfl (by repeat (first | exact List.Sublist.refl _ | apply List.Sublist.cons)) ⟨(by (repeat (first | exact look_hit | (apply look_at; focus (first | rfl | (simp; done) | (congr 2; omega))) | (apply look_miss; focus rfl))); done), (by (repeat (first | exact look_hit | (apply look_at; focus (first | rfl | (simp; done) | (congr 2; omega))) | (apply look_miss; focus rfl))); done), (by (repeat (first | exact look_hit | (apply look_at; focus (first | rfl | (simp; done) | (congr 2; omega))) | (apply look_miss; focus rfl))); done), trivial⟩) (CD.loop (fun (gh__ : Nat × Int) y__ => match gh__ with | (i, need) => (i ≤ n) ∧ (0 ≤ need) ∧ (need ≤ 1 + 2 * ((n : Int) - i)) ∧ ((need = 0 ∧ begF ops n 1 = i) ∨ (1 ≤ need ∧ begF ops n 1 = begF ops i need ∧ ∃ h, runs 0 (ops.take i) = some h ∧ need ≤ h)) ∧ y__ = (⟨22, [(0, .list 5 (ops.flatMap cO) ops.length), (5, .v (.int .i64 (i : Nat))), (6, .v (.int .i64 need))], []⟩ : St)) (fun (gh__ : Nat × Int) => match gh__ with | (i, need) => i) (n, 1) ⟨(Nat.le_refl _), (by decide), (by omega), (.inr ⟨by decide, rfl, h, hr, h1⟩), rfl⟩ ?_)
 rintro ⟨i, need⟩ _ ⟨hi, hn0, hnb, hinv, rfl⟩
 refine CD.seq ?_
 refine sr_ ?_
 refine os_ mv_ ?_
 refine os_ bn_ ?_
 refine nm_ [0, 5, 6, 9] ?_
 refine CD.cond ot (fun hc0 => ?_) (fun hc0 => ?_)
 ·have hc0' := hc0
  (try simp only [V.cnd, ne_eq] at hc0')
  obtain ⟨hz, _⟩ | ⟨hn1, hbe, h2, e1, e2⟩ := hinv
  ·omega
  have hi0 : 0 < i := by rcases Nat.eq_zero_or_pos i with rfl | h; rw [List.take_zero, runs] at e1; cases e1; omega; exact h
  have hiw1 : -9223372036854775808 ≤ ((i - 1 : Nat) : Int) := by omega
  have hiw2 : ((i - 1 : Nat) : Int) ≤ 9223372036854775807 := by omega
  have hi1 : (i : Int) - 1 = ((i - 1 : Nat) : Int) := by omega
  have hlt : i - 1 < ops.length := by omega
  have hpb := pops_bd ops[i - 1].k
  obtain ⟨h3, e3, e4, e5⟩ := runs_last hlt (by rw [show i - 1 + 1 = i by omega]; exact e1)
  have hpo := (err_pops e4).1
  have hbs : begF ops i need = if need + (popsF ops[i - 1].k - 1) > 0 then begF ops (i - 1) (need + (popsF ops[i - 1].k - 1)) else i - 1 := by obtain ⟨j, rfl⟩ : ∃ j, i = j + 1 := ⟨i - 1, by omega⟩; rw [begF, opK_at (by omega)]; rfl
  have hnx : (need + (popsF ops[i - 1].k - 1) = 0 ∧ begF ops n 1 = i - 1) ∨ (1 ≤ need + (popsF ops[i - 1].k - 1) ∧ begF ops n 1 = begF ops (i - 1) (need + (popsF ops[i - 1].k - 1)) ∧ ∃ h, runs 0 (ops.take (i - 1)) = some h ∧ need + (popsF ops[i - 1].k - 1) ≤ h) := by (by_cases hc : need + (popsF ops[i - 1].k - 1) > 0); exact .inr ⟨by omega, by rw [hbe, hbs, if_pos hc], h3, e3, by omega⟩; exact .inl ⟨by omega, by rw [hbe, hbs, if_neg hc]⟩
  refine CD.skip ?_
  refine CD.block ?_
  refine sr_ ?_
  refine os_ mv_ ?_
  refine OD.still (wants_plain rfl) rfl (still_bin rfl ot opd_const (bin_sub (r := ((i - 1 : Nat) : Int)) (by rw [hi1]; exact wrap_i64 hiw1 hiw2))) ?_
  refine os_ mv_ ?_
  refine OD.wk (Wk.as_ (n := 22) (l' := [(0, _), (5, _), (6, _)]) (S' := []) rfl rfl ⟨lk, lk, lk, trivial⟩) ?_
  refine OD.nil ?_
  refine CD.region ?_
  refine os_ mv_ ?_
  refine os_ mv_ ?_
  refine os_ mv_ ?_
  refine os_ (ix_ 5 (h := by first | exact .l (j := i - 1) rfl (by omega) | exact .r (j := i - 1) rfl (by omega))) ?_
  refine os_ (fa_ 0) ?_
  refine os_ ld_ ?_
  refine OD.callP (wants_plain rfl) rfl rfl rfl Tryz.call27 (works_vp ops[i - 1].k) ⟨ot, trivial⟩ ?_
  refine os_ bn_ ?_
  refine os_ bn_ ?_
  refine os_ mv_ ?_
  refine OD.wk (Wk.as_ (n := 22) (l' := [(0, _), (5, _), (6, _)]) (S' := []) rfl rfl ⟨lk, lk, lk, trivial⟩) ?_
  refine OD.nil ?_
  refine ⟨((i - 1), (need + (popsF ops[i - 1].k - 1))), ⟨22, [(0, .list 5 (ops.flatMap cO) ops.length), (5, .v (.int .i64 (((i - 1)) : Nat))), (6, .v (.int .i64 ((need + (popsF ops[i - 1].k - 1)))))], []⟩, ?_, Wk.asS (n := 22) rfl (by repeat (first | exact List.Sublist.refl _ | apply List.Sublist.cons)) ⟨(by (repeat (first | exact look_hit | (apply look_at; focus (first | rfl | (simp; done) | (congr 2; omega))) | (apply look_miss; focus rfl))); done), (by (repeat (first | exact look_hit | (apply look_at; focus (first | rfl | (simp; done) | (congr 2; omega))) | (apply look_miss; focus rfl))); done), (by (repeat (first | exact look_hit | (apply look_at; focus (first | rfl | (simp; done) | (congr 2; omega))) | (apply look_miss; focus rfl))); done), trivial⟩, (by omega), (by omega), (by omega), hnx, rfl⟩
  first | omega | (simp only []; omega)
 ·have hc0' := hc0
  (try simp only [V.cnd, ne_eq] at hc0')
  have hres : begF ops n 1 = i := by rcases hinv with ⟨_, h⟩ | ⟨h, _⟩; exact h; omega
  refine CD.exit ?_
  refine sr_ ?_
  refine os_ mv_ ?_
  refine os_ mv_ ?_
  refine nm_ [4] ?_
  refine CD.ret ?_
  refine r1_ ?_
  rw [hres]; exact ⟨rfl, rfl⟩

set_option maxHeartbeats 4000000 in
set_option maxRecDepth 100000 in
theorem indexO_vc (ls : List OpL) (g : Nat) (caps : List D) (S : List Blk) (p : OpL → Bool) (hcall : ∀ args w, (callFunc g args).run Tryz.prog w = .ok (.enter g args) w) (hp : ∀ x ∈ ls, VC Tryz.prog G g (.agg (cO x) :: caps) S (fun r S' => r = .v (.bool (p x)) ∧ S' = S)) (hlen : ls.length ≤ 1000000) : VC Tryz.prog G 37 [.list 5 (ls.flatMap cO) ls.length, .clo (.func g) caps] S (fun r S' => r = .v (.int .i64 (idxG p ls)) ∧ S' = S) := by
 refine VC.body Tryz.func37 rfl Tryz.ntmps37 (Nat.le_of_ble_eq_true rfl) fun X0 w0 S00 => ?_
 unfold cO at hp
 refine sr_ ?_
 refine os_ mv_ ?_
 refine OD.wk (Wk.as_ (n := 19) (l' := [(0, _), (1, _)]) (S' := S) rfl (by first | rfl | simp [St.put]) ⟨lk, lk, trivial⟩) ?_
 refine OD.nil ?_
 refine CD.seq ?_
 refine sr_ ?_
 refine os_ mv_ ?_
 refine os_ ln_ ?_
 refine os_ mv_ ?_
 refine OD.wk (Wk.as_ (n := 19) (l' := [(0, _), (1, _), (7, _), (8, _)]) (S' := S) rfl (by first | rfl | simp [St.put]) ⟨lk, lk, lk, lk, trivial⟩) ?_
 refine OD.nil ?_
 refine CD.block ?_
 refine CD.wk (Wk.asS (n := 19) (l' := [(0, .list 5 (ls.flatMap cO) ls.length), (1, .clo (.func g) caps), (7, .v (.int .i64 ls.length)), (8, .v (.int .i64 ((0) : Nat)))]) (S' := S) rfl (by repeat (first | exact List.Sublist.refl _ | apply List.Sublist.cons)) ⟨(by (repeat (first | exact look_hit | (apply look_at; focus (first | rfl | (simp; done) | (congr 2; omega))) | (apply look_miss; focus rfl))); done), (by (repeat (first | exact look_hit | (apply look_at; focus (first | rfl | (simp; done) | (congr 2; omega))) | (apply look_miss; focus rfl))); done), (by (repeat (first | exact look_hit | (apply look_at; focus (first | rfl | (simp; done) | (congr 2; omega))) | (apply look_miss; focus rfl))); done), (by (repeat (first | exact look_hit | (apply look_at; focus (first | rfl | (simp; done) | (congr 2; omega))) | (apply look_miss; focus rfl))); done), trivial⟩) (CD.loop (fun (k : Nat) y__ => (k ≤ ls.length) ∧ (∀ x ∈ ls.take k, p x = false) ∧ y__ = (⟨19, [(0, .list 5 (ls.flatMap cO) ls.length), (1, .clo (.func g) caps), (7, .v (.int .i64 ls.length)), (8, .v (.int .i64 (k : Nat)))], S⟩ : St)) (fun (k : Nat) => ls.length - k) 0 ⟨Nat.zero_le _, (by simp), rfl⟩ ?_)
 rintro k _ ⟨hk, h0, rfl⟩
 refine sr_ ?_
 refine os_ bn_ ?_
 refine OD.wk (Wk.as_ (n := 19) (l' := [(0, _), (1, _), (7, _), (8, _), (9, _)]) (S' := S) rfl (by first | rfl | simp [St.put]) ⟨lk, lk, lk, lk, lk, trivial⟩) ?_
 refine OD.nil ?_
 refine CD.seq ?_
 refine CD.cond ot (fun hc0 => ?_) (fun hc0 => ?_)
 ·have hc0' := hc0
  (try simp only [V.cnd, ne_eq] at hc0')
  refine CD.skip ?_
  refine CD.seq ?_
  refine CD.block ?_
  refine sr_ ?_
  refine os_ mv_ ?_
  refine os_ mv_ ?_
  refine OD.wk (Wk.as_ (n := 19) (l' := [(0, _), (1, _), (5, _), (7, _), (8, _)]) (S' := S) rfl (by first | rfl | simp [St.put]) ⟨lk, lk, lk, lk, lk, trivial⟩) ?_
  refine OD.nil ?_
  refine sr_ ?_
  refine os_ mv_ ?_
  refine os_ mv_ ?_
  refine os_ mv_ ?_
  refine os_ (ix_ 5) ?_
  refine os_ (la_ [_, _, _, _, _]) ?_
  refine OD.callv (f := g) (args := [_]) (wants_plain rfl) rfl rfl (opd_tmp rfl lk) hcall (hp (ls[k]'(by omega)) (List.getElem_mem _)) rfl ⟨opd_tmp rfl lk, trivial⟩ (perm_all _) ?_; rintro _ S2 ⟨rfl, hS2⟩; rw [hS2]; clear hS2
  refine OD.wk (Wk.as_ (n := 19) (l' := [(0, _), (1, _), (5, _), (7, _), (8, _), (16, _)]) (S' := S) rfl (by first | rfl | simp [St.put]) ⟨lk, lk, lk, lk, lk, lk, trivial⟩) ?_
  refine OD.nil ?_
  refine CD.cond ot (fun hc1 => ?_) (fun hc1 => ?_)
  ·have hc1' := hc1
   (try simp only [V.cnd, ne_eq] at hc1')
   refine sr_ ?_
   refine os_ mv_ ?_
   refine os_ mv_ ?_
   refine OD.wk (Wk.as_ (n := 19) (l' := [(4, _)]) (S' := S) rfl (by first | rfl | simp [St.put]) ⟨lk, trivial⟩) ?_
   refine OD.nil ?_
   refine CD.ret ?_
   refine ⟨.inr rfl, _, S, (by repeat (first | exact List.Sublist.refl _ | apply List.Sublist.cons)), ret_one Tryz.results37 (res_tmp (Nat.le_of_ble_eq_true rfl) lk), ?_⟩
   refine ⟨?_, rfl⟩; first | (rw [idxG_hit (by omega) h0 (by assumption)]) | (rw [idxG_none (by omega) h0])
  ·have hc1' := hc1
   (try simp only [V.cnd, ne_eq] at hc1')
   refine CD.skip ?_
   refine CD.region ?_
   refine os_ bn_ ?_
   refine os_ mv_ ?_
   refine OD.wk (Wk.as_ (n := 19) (l' := [(0, _), (1, _), (7, _), (8, _)]) (S' := S) rfl (by first | rfl | simp [St.put]) ⟨lk, lk, lk, lk, trivial⟩) ?_
   refine OD.nil ?_
   refine ⟨k + 1, ⟨19, [(0, .list 5 (ls.flatMap cO) ls.length), (1, .clo (.func g) caps), (7, .v (.int .i64 ls.length)), (8, .v (.int .i64 ((k + 1) : Nat)))], S⟩, ?_, Wk.asS (n := 19) rfl (by repeat (first | exact List.Sublist.refl _ | apply List.Sublist.cons)) ⟨(by (repeat (first | exact look_hit | (apply look_at; focus (first | rfl | (simp; done) | (congr 2; omega))) | (apply look_miss; focus rfl))); done), (by (repeat (first | exact look_hit | (apply look_at; focus (first | rfl | (simp; done) | (congr 2; omega))) | (apply look_miss; focus rfl))); done), (by (repeat (first | exact look_hit | (apply look_at; focus (first | rfl | (simp; done) | (congr 2; omega))) | (apply look_miss; focus rfl))); done), (by (repeat (first | exact look_hit | (apply look_at; focus (first | rfl | (simp; done) | (congr 2; omega))) | (apply look_miss; focus rfl))); done), trivial⟩, (by omega), (by rw [List.take_succ_eq_append_getElem (by omega)]; intro x hx; rcases List.mem_append.1 hx with hx | hx; exact h0 x hx; simp only [List.mem_singleton] at hx; subst hx; assumption), rfl⟩
   first | omega | (simp only []; omega)
 ·have hc0' := hc0
  (try simp only [V.cnd, ne_eq] at hc0')
  refine CD.exit ?_
  refine sr_ ?_
  refine os_ mv_ ?_
  refine OD.wk (Wk.as_ (n := 19) (l' := [(4, _)]) (S' := S) rfl (by first | rfl | simp [St.put]) ⟨lk, trivial⟩) ?_
  refine OD.nil ?_
  refine CD.ret ?_
  refine ⟨.inr rfl, _, S, (by repeat (first | exact List.Sublist.refl _ | apply List.Sublist.cons)), ret_one Tryz.results37 (res_tmp (Nat.le_of_ble_eq_true rfl) lk), ?_⟩
  refine ⟨?_, rfl⟩; first | (rw [idxG_hit (by omega) h0 (by assumption)]) | (rw [idxG_none (by omega) h0])

set_option maxHeartbeats 4000000 in
set_option maxRecDepth 100000 in
theorem narcl1_vc (o : OpL) (nm : ByteArray) (b : Nat) : VC Tryz.prog G 38 [.agg (cO o), .v (.pointer (some ⟨b, 0, none⟩))] [⟨b, 9, 1, [.v (.string nm)]⟩] (fun r S => r = .v (.bool (keyCol nm o)) ∧ S = [⟨b, 9, 1, [.v (.string nm)]⟩]) := by
 refine VC.body Tryz.func38 rfl Tryz.ntmps38 (Nat.le_of_ble_eq_true rfl) fun X0 w0 S00 => ?_
 unfold cO keyCol
 refine sr_ ?_
 refine OD.box (ds := [_, _, _, _, _]) (wants_plain rfl) rfl rfl ot rfl rfl (fun b2 => ?_)
 refine os_ mv_ ?_
 refine OD.wk (Wk.as_ (n := 13) (l' := [(1, _), (2, _)]) (S' := [⟨b2, 35, 5, [_, _, _, _, _]⟩, ⟨_, _, _, [_]⟩]) rfl rfl ⟨lk, lk, trivial⟩) ?_
 refine OD.nil ?_
 refine sr_ ?_
 refine os_ (fa_ 0) ?_
 refine os_ (lb_ 0) ?_
 refine os_ bn_ ?_
 refine os_ mv_ ?_
 refine OD.split (t := 7) lk (fun hg7 => ?_) (fun hg7 => ?_)
 ·have hg7' := hg7; (try simp only [V.cnd, ne_eq] at hg7')
  refine os_ (fa_ 4) ?_
  refine os_ (lb_ 0) ?_
  refine os_ (lb_ 1) ?_
  refine os_ bn_ ?_
  refine os_ pkT_ ?_
  refine os_ mv_ ?_
  refine nm_ [3] ?_
  refine CD.ret ?_
  refine ⟨.inr rfl, _, [⟨b, 9, 1, [.v (.string nm)]⟩], (by repeat (first | exact List.Sublist.refl _ | apply List.Sublist.cons)), ret_one Tryz.results38 (res_tmp (Nat.le_of_ble_eq_true rfl) lk), ?_⟩
  first | exact ⟨rfl, rfl⟩ | (refine ⟨vb ?_, rfl⟩; simp_all)
 ·have hg7' := hg7; (try simp only [V.cnd, ne_eq] at hg7')
  refine sk_ ?_
  refine sk_ ?_
  refine sk_ ?_
  refine sk_ ?_
  refine os_ pkF_ ?_
  refine os_ mv_ ?_
  refine nm_ [3] ?_
  refine CD.ret ?_
  refine ⟨.inr rfl, _, [⟨b, 9, 1, [.v (.string nm)]⟩], (by repeat (first | exact List.Sublist.refl _ | apply List.Sublist.cons)), ret_one Tryz.results38 (res_tmp (Nat.le_of_ble_eq_true rfl) lk), ?_⟩
  first | exact ⟨rfl, rfl⟩ | (refine ⟨vb ?_, rfl⟩; simp_all)

set_option maxHeartbeats 4000000 in
set_option maxRecDepth 100000 in
theorem narcl2_vp (o : OpL) : VC Tryz.prog G 39 [.agg (cO o)] [] (fun r S => r = .v (.bool (litNN o)) ∧ S = []) := by
 refine VC.body Tryz.func39 rfl Tryz.ntmps39 (Nat.le_of_ble_eq_true rfl) fun X0 w0 S00 => ?_
 unfold cO litNN
 refine sr_ ?_
 refine OD.box (ds := [_, _, _, _, _]) (wants_plain rfl) rfl rfl ot rfl rfl (fun b1 => ?_)
 refine os_ mv_ ?_
 refine OD.wk (Wk.as_ (n := 12) (l' := [(1, _)]) (S' := [⟨b1, 35, 5, [_, _, _, _, _]⟩]) rfl rfl ⟨lk, trivial⟩) ?_
 refine OD.nil ?_
 refine sr_ ?_
 refine os_ (fa_ 0) ?_
 refine os_ (lb_ 0) ?_
 refine os_ bn_ ?_
 refine os_ mv_ ?_
 refine OD.split (t := 6) lk (fun hg6 => ?_) (fun hg6 => ?_)
 ·have hg6' := hg6; (try simp only [V.cnd, ne_eq] at hg6')
  refine os_ (fa_ 1) ?_
  refine os_ (fa_ 0) ?_
  refine os_ (lb_ 0) ?_
  refine os_ bn_ ?_
  refine os_ pkT_ ?_
  refine os_ mv_ ?_
  refine nm_ [2] ?_
  refine CD.ret ?_
  refine r1_ ?_
  first | exact ⟨rfl, rfl⟩ | (refine ⟨vb ?_, rfl⟩; simp_all; done) | (refine ⟨vb ?_, rfl⟩; simp_all; rfl)
 ·have hg6' := hg6; (try simp only [V.cnd, ne_eq] at hg6')
  refine sk_ ?_
  refine sk_ ?_
  refine sk_ ?_
  refine sk_ ?_
  refine os_ pkF_ ?_
  refine os_ mv_ ?_
  refine nm_ [2] ?_
  refine CD.ret ?_
  refine r1_ ?_
  first | exact ⟨rfl, rfl⟩ | (refine ⟨vb ?_, rfl⟩; simp_all; done) | (refine ⟨vb ?_, rfl⟩; simp_all; rfl)

set_option maxHeartbeats 4000000 in
set_option maxRecDepth 100000 in
theorem bcmp_vp (a b : List UInt8) : VP Tryz.prog G 40 [.list 1 (a.flatMap cB) a.length, .list 1 (b.flatMap cB) b.length] (.v (.int .i64 (compareBytes a b))) := by
 refine VC.body Tryz.func40 rfl Tryz.ntmps40 (Nat.le_of_ble_eq_true rfl) fun X0 w0 S00 => ?_
 refine sr_ ?_
 refine os_ mv_ ?_
 refine nm_ [0, 1] ?_
 refine sr_ ?_
 refine os_ mv_ ?_
 refine os_ mv_ ?_
 refine OD.still (wants_plain rfl) rfl (still_bytecmp rfl ot ot Tryz.func59 (by kernel_rfl) (by kernel_rfl) (by kernel_rfl) (by kernel_rfl)) ?_
 refine os_ mv_ ?_
 refine OD.wk (Wk.as_ (n := 8) (l' := [(4, _)]) (S' := []) rfl rfl ⟨lk, trivial⟩) ?_
 refine OD.nil ?_
 refine CD.ret ?_
 refine ⟨.inr rfl, _, [], List.nil_sublist _, ret_one Tryz.results40 (res_tmp (Nat.le_of_ble_eq_true rfl) lk), ?_⟩
 exact ⟨rfl, rfl⟩

theorem info5_Ex8 : (Tryz.prog.info? 5).map (fun i => (i.zero, i.size, i.bytes)) = some (some (.int .u8 0), 1, 1) := by kernel_rfl

set_option maxHeartbeats 4000000 in
set_option maxRecDepth 100000 in
theorem clone_vp (a : List UInt8) (ha : a.length ≤ 1000) : VP Tryz.prog G 41 [.list 1 (a.flatMap cB) a.length] (.list 1 (a.flatMap cB) a.length) := by
 refine VC.body Tryz.func41 rfl Tryz.ntmps41 (Nat.le_of_ble_eq_true rfl) fun X0 w0 S00 => ?_
 have hmx : maxLen = 9223372036854775807 := rfl
 refine sr_ ?_
 refine os_ mv_ ?_
 refine nm_ [0] ?_
 refine CD.seq ?_
 refine sr_ ?_
 refine os_ mv_ ?_
 refine OD.eqNil (wants_plain rfl) rfl rfl ot opd_const Tryz.underlying39 (fun bn hbn => ?_)
 refine OD.wk (Wk.as_ (n := 8) (l' := [(0, _), (4, _)]) (S' := []) rfl rfl ⟨lk, lk, trivial⟩) ?_
 refine OD.nil ?_
 refine CD.cond ot (fun hc0 => ?_) (fun hc0 => ?_)
 ·have hc0' := hc0
  (try simp only [V.cnd, ne_eq] at hc0')
  obtain ⟨hz, _⟩ := hbn hc0
  obtain rfl := List.length_eq_zero_iff.1 hz
  refine sr_ ?_
  refine os_ mv_ ?_
  refine nm_ [2] ?_
  refine CD.wk (Wk.giveNil (t := 2) (sz := 1) lk) ?_
  refine CD.ret ?_
  refine r1_ ?_
  exact ⟨rfl, rfl⟩
 ·have hc0' := hc0
  (try simp only [V.cnd, ne_eq] at hc0')
  refine CD.skip ?_
  refine sr_ ?_
  refine OD.bldS0 (wants_plain rfl) rfl rfl Tryz.runUnderlying39 Tryz.sizeOf5 (fun b5 => ?_)
  refine os_ mv_ ?_
  refine OD.appendAny (ls := ([] : List UInt8)) (new := a) (Sq := [⟨b5, 5, 0 * 1, []⟩]) cB_len cB_one (wants_plain rfl) rfl rfl Tryz.underlying39 info5_Ex8 rfl (by decide) Tryz.runUnderlying39 Tryz.sizeOf5 ot (.inr ⟨b5, rfl, Nat.le_refl _, Nat.zero_le _, rfl⟩) (perm_r11 (A := [])) ot (by simp; omega) (by simp; omega) (fun ad7 cp7 S7 ho7 => ?_)
  refine OD.perm (perm_q11 (A := [])) ?_
  refine os_ mv_ ?_
  refine OD.wk (Wk.as_ (n := 8) (l' := [(2, _)]) (S' := (S7)) rfl rfl ⟨lk, trivial⟩) ?_
  refine OD.nil ?_
  refine CD.giveL (t := 2) (Sq := S7) lk ho7 (fm_len cB_len _) (perm_r11 (A := [])) ?_
  refine CD.ret ?_
  refine ⟨.inr rfl, _, [], List.nil_sublist _, ret_one Tryz.results41 (res_tmp (Nat.le_of_ble_eq_true rfl) lk), ?_⟩
  exact ⟨rfl, rfl⟩

theorem enc_len (l : List Vl) : (encR l).1.length ≤ 100 := by
 unfold encR
 split
 ·simp
 ·split
  ·simp
  ·split
   ·simp
   ·simpa using by omega
theorem low_len {k : List UInt8} {b : BdL} (hk : k.length ≤ 100) (h1 : b.1.length ≤ 100) (h2 : b.2.length ≤ 100) : (lowF k b).1.length ≤ 100 ∧ (lowF k b).2.length ≤ 100 := by unfold lowF; split <;> exact ⟨by assumption, by assumption⟩
theorem high_len {k : List UInt8} {b : BdL} (hk : k.length ≤ 100) (h1 : b.1.length ≤ 100) (h2 : b.2.length ≤ 100) : (highF k b).1.length ≤ 100 ∧ (highF k b).2.length ≤ 100 := by unfold highF; split <;> exact ⟨by assumption, by assumption⟩
theorem cut_len {kc : Int} {eq not : Bool} {k : List UInt8} {b : BdL} (hk : k.length ≤ 100) (h1 : b.1.length ≤ 100) (h2 : b.2.length ≤ 100) : (cutB kc eq not k b).1.length ≤ 100 ∧ (cutB kc eq not k b).2.length ≤ 100 := by
 unfold cutB
 have q1 := low_len hk h1 h2
 have q2 := high_len hk h1 h2
 have q3 := high_len hk q1.1 q1.2
 cases (eq || (kc == 0) != not) <;> cases (eq || (kc == 0) == not)
 ·exact ⟨h1, h2⟩
 ·exact q1
 ·exact q2
 ·exact q3
theorem leaf_len {key : ByteArray} {ops : List OpL} {not : Bool} {b : BdL} (h1 : b.1.length ≤ 100) (h2 : b.2.length ≤ 100) : (leafB key ops not b).1.length ≤ 100 ∧ (leafB key ops not b).2.length ≤ 100 := by
 unfold leafB
 split
 ·exact ⟨h1, h2⟩
 ·split
  ·exact ⟨h1, h2⟩
  ·exact cut_len (enc_len _) h1 h2
theorem nar_len (key : ByteArray) : ∀ (f : Nat) (ops : List OpL) (b : BdL), b.1.length ≤ 100 → b.2.length ≤ 100 → (narF key f ops b).1.length ≤ 100 ∧ (narF key f ops b).2.length ≤ 100
 | 0, _, b, h1, h2 => ⟨h1, h2⟩
 | f + 1, ops, b, h1, h2 => by
  rw [narF]
  split
  ·have q := nar_len key f (ops.take (begF ops (ops.length - 1) 1)) b h1 h2
   exact nar_len key f _ _ q.1 q.2
  ·split
   ·exact leaf_len h1 h2
   ·exact leaf_len h1 h2
theorem runs_pos {ops : List OpL} (h : runs 0 ops = some 1) : 1 ≤ ops.length := by
 cases ops with
 | nil => rw [runs] at h; cases h
 | cons => simp
/-- What stands behind the last op of an expression. -/
theorem runs_end {ops : List OpL} (h : runs 0 ops = some 1) : ∃ (hn : ops.length - 1 < ops.length), runs 0 (ops.take (ops.length - 1)) = some (popsF ops[ops.length - 1].k) := by
  have hp := runs_pos h
  have hlt : ops.length - 1 < ops.length := by omega
  refine ⟨hlt, ?_⟩
  obtain ⟨h', e1, e2, e3⟩ := runs_last hlt (by rw [show ops.length - 1 + 1 = ops.length by omega, List.take_length]; exact h)
  rw [e1]; congr 1; omega
theorem and_mid {ops : List OpL} (h : runs 0 ops = some 1) (hk : opK ops (ops.length - 1) = 3) : begF ops (ops.length - 1) 1 < ops.length - 1 ∧ runs 0 (ops.take (begF ops (ops.length - 1) 1)) = some 1 ∧ runs 0 ((ops.take (ops.length - 1)).drop (begF ops (ops.length - 1) 1)) = some 1 ∧ runs 0 (ops.take (ops.length - 1)) = some 2 := by
 obtain ⟨hn, e⟩ := runs_end h
 rw [opK_at hn] at hk
 rw [hk] at e
 obtain ⟨q1, q2, q3⟩ := beg_spec (ops.length - 1) 1 2 (by omega) e (by decide) (by decide)
 exact ⟨q1, q2, q3 0 (by decide), e⟩

variable {key : ByteArray}
theorem op_val {ls : List OpL} {j : Nat} (h : j < ls.length) : ((ls.flatMap cO).drop (j * 5 + 1)).take 3 = cV ls[j].v := by
 rw [← List.drop_drop, fm_drop cO_len, List.drop_eq_getElem_cons h, List.flatMap_cons]; rfl

set_option maxHeartbeats 4000000 in
set_option maxRecDepth 100000 in
theorem nar_step (hG : (2, [Value.int .i64 m]) ∈ G) (key : ByteArray) (f : Nat) (hf : f ≤ 40) (IH : ∀ (ops : List OpL) (lo hi : List UInt8), ops.length ≤ f → runs 0 ops = some 1 → (∀ o ∈ ops, o.v.Ok) → lo.length ≤ 100 → hi.length ≤ 100 → ∀ b0, VC Tryz.prog G 21 [.v (.pointer (some ⟨b0, 0, none⟩)), .v (.string key), .list 5 (ops.flatMap cO) ops.length] [⟨b0, 58, 2, [.list 1 (lo.flatMap cB) lo.length, .list 1 (hi.flatMap cB) hi.length]⟩] (fun r S => r = .tup [] ∧ S = [⟨b0, 58, 2, [.list 1 ((narF key f ops (lo, hi)).1.flatMap cB) (narF key f ops (lo, hi)).1.length, .list 1 ((narF key f ops (lo, hi)).2.flatMap cB) (narF key f ops (lo, hi)).2.length]⟩])) (ops : List OpL) (lo hi : List UInt8) (hl : ops.length ≤ f + 1) (h40 : ops.length ≤ 40) (hr : runs 0 ops = some 1) (hok : ∀ o ∈ ops, o.v.Ok) (hlo : lo.length ≤ 100) (hhi : hi.length ≤ 100) (b0 : Nat) : VC Tryz.prog G 21 [.v (.pointer (some ⟨b0, 0, none⟩)), .v (.string key), .list 5 (ops.flatMap cO) ops.length] [⟨b0, 58, 2, [.list 1 (lo.flatMap cB) lo.length, .list 1 (hi.flatMap cB) hi.length]⟩] (fun r S => r = .tup [] ∧ S = [⟨b0, 58, 2, [.list 1 ((narF key (f + 1) ops (lo, hi)).1.flatMap cB) (narF key (f + 1) ops (lo, hi)).1.length, .list 1 ((narF key (f + 1) ops (lo, hi)).2.flatMap cB) (narF key (f + 1) ops (lo, hi)).2.length]⟩]) := by
 refine VC.body Tryz.func21 rfl Tryz.ntmps21 (Nat.le_of_ble_eq_true rfl) fun X0 w0 S00 => ?_
 have hp0 := runs_pos hr
 obtain ⟨hn1, hre⟩ := runs_end hr
 have hoK := opK_at hn1
 have hmx : maxLen = 9223372036854775807 := rfl
 have hpb := pops_bd ops[ops.length - 1].k
 refine sr_ ?_
 refine OD.box (ds := [_]) (wants_plain rfl) rfl rfl ot rfl rfl (fun b4 => ?_)
 refine OD.wk (Wk.as_ (n := 155) (l' := [(0, _), (2, _), (4, _)]) (S' := [⟨b4, 9, 1, [_]⟩, ⟨b0, 58, 2, [_, _]⟩]) rfl rfl ⟨lk, lk, lk, trivial⟩) ?_
 refine OD.nil ?_
 refine sr_ ?_
 refine os_ mv_ ?_
 refine os_ ln_ ?_
 refine OD.still (wants_plain rfl) rfl (still_bin rfl ot opd_const (bin_sub (r := ((ops.length - 1 : Nat) : Int)) (by rw [show ((ops.length : Nat) : Int) - 1 = ((ops.length - 1 : Nat) : Int) by omega]; exact wrap_i64 (by omega) (by omega)))) ?_
 refine os_ mv_ ?_
 refine OD.wk (Wk.as_ (n := 155) (l' := [(0, _), (2, _), (4, _), (6, _)]) (S' := [⟨b4, 9, 1, [_]⟩, ⟨b0, 58, 2, [_, _]⟩]) rfl rfl ⟨lk, lk, lk, lk, trivial⟩) ?_
 refine OD.nil ?_
 refine CD.seq ?_
 refine sr_ ?_
 refine os_ mv_ ?_
 refine os_ mv_ ?_
 refine os_ (ix_ 5 (h := by first | exact .l (j := (ops.length - 1)) rfl (by omega) | exact .r (j := (ops.length - 1)) rfl (by omega))) ?_
 refine os_ (fa_ 0) ?_
 refine os_ ld_ ?_
 refine os_ bn_ ?_
 refine nm_ [0, 2, 4, 6, 22] ?_
 refine CD.cond ot (fun hc0 => ?_) (fun hc0 => ?_)
 ·have hc0' := hc0
  (try simp only [V.cnd, ne_eq] at hc0')
  have hk3 : opK ops (ops.length - 1) = 3 := by rw [hoK]; omega
  obtain ⟨hm1, hm2, hm3, hm4⟩ := and_mid hr hk3
  have hres : (narF key (f + 1) ops (lo, hi)) = narF key f ((ops.take (ops.length - 1)).drop (begF ops (ops.length - 1) 1)) (narF key f (ops.take (begF ops (ops.length - 1) 1)) (lo, hi)) := by rw [narF, if_pos hk3]
  have hq1 := nar_len key f (ops.take (begF ops (ops.length - 1) 1)) (lo, hi) hlo hhi
  refine sr_ ?_
  refine os_ mv_ ?_
  refine os_ mv_ ?_
  refine OD.callP (wants_plain rfl) rfl rfl rfl Tryz.call36 (begins_vp ops (by omega) (ops.length - 1) (by omega) 2 hm4 (by decide)) ⟨ot, ot, trivial⟩ ?_
  refine os_ mv_ ?_
  refine OD.wk (Wk.as_ (n := 155) (l' := [(0, _), (2, _), (4, _), (6, _), (7, _)]) (S' := [⟨b4, 9, 1, [_]⟩, ⟨b0, 58, 2, [_, _]⟩]) rfl rfl ⟨lk, lk, lk, lk, lk, trivial⟩) ?_
  refine OD.nil ?_
  refine CD.seq ?_
  refine CD.draw (bks (List.eraseIdx _ 1)) (by kernel_rfl) (fun _ h => (List.Sublist.map _ (List.eraseIdx_sublist _ 1)).subset h) ?_
  refine AD0.take (i := 0) rfl (by kernel_rfl) (by kernel_rfl) (by kernel_rfl) (by repeat (first | exact NP.body | apply NP.then | apply NP.cut | apply NP.inBlock | apply NP.round)) (wants_plain rfl) rfl (still_mv rfl ot) (by exact trivial) ?_
  refine AD0.take (i := 1) rfl (by kernel_rfl) (by kernel_rfl) (by kernel_rfl) (by repeat (first | exact NP.body | apply NP.then | apply NP.cut | apply NP.inBlock | apply NP.round)) (wants_plain rfl) rfl (still_r1 (mk := Op.load 9) rfl ot (by first | exact ld_blk (k := 0) rfl rfl Tryz.isAgg9 rfl | exact ld_fm cO_len Tryz.isAgg9 (by first | assumption | omega) rfl | exact ld_fm0 cO_len Tryz.isAgg9 (by first | assumption | omega) rfl | exact ld_row (k := 0) cO_len rfl rfl rfl Tryz.isAgg9 (by first | assumption | omega) rfl | exact ld_row0 (k := 0) cO_len rfl rfl rfl Tryz.isAgg9 (by first | assumption | omega) rfl | exact ld_row (k := 1) cO_len rfl rfl rfl Tryz.isAgg9 (by first | assumption | omega) rfl | exact ld_row0 (k := 1) cO_len rfl rfl rfl Tryz.isAgg9 (by first | assumption | omega) rfl | exact ld_i Tryz.isAgg9 rfl)) (by first | exact trivial | exact safe_blk (k0 := 0) rfl rfl) ?_
  refine AD0.take (i := 2) rfl (by kernel_rfl) (by kernel_rfl) (by kernel_rfl) (by repeat (first | exact NP.body | apply NP.then | apply NP.cut | apply NP.inBlock | apply NP.round)) (wants_plain rfl) rfl (still_mv rfl ot) (by exact trivial) ?_
  refine AD0.take (i := 3) rfl (by kernel_rfl) (by kernel_rfl) (by kernel_rfl) (by repeat (first | exact NP.body | apply NP.then | apply NP.cut | apply NP.inBlock | apply NP.round)) (wants_plain rfl) rfl (still_mv rfl ot) (by exact trivial) ?_
  refine AD0.take (i := 4) rfl (by kernel_rfl) (by kernel_rfl) (by kernel_rfl) (by repeat (first | exact NP.body | apply NP.then | apply NP.cut | apply NP.inBlock | apply NP.round)) (wants_plain rfl) rfl (still_rs (l := 0) rfl ot trivial ⟨_, ot⟩ (by first | exact sl_head cO_len (fun h => by cases h) Tryz.runUnderlying36 Tryz.sizeOf35 (by omega) | exact sl_row (fun h => by cases h) Tryz.runUnderlying36 Tryz.sizeOf35 (by omega) | exact sl_list (fun _ => rfl) (fun h => by cases h) Tryz.runUnderlying36 Tryz.sizeOf35 (by omega) (by omega))) (by exact trivial) ?_
  refine AD0.later rfl ?_
  refine AD.one (i := 5) (by kernel_rfl) ?_
  refine AStep.call rfl (wants_plain rfl) rfl rfl rfl Tryz.call21 (IH (ops.take (begF ops (ops.length - 1) 1)) (lo) (hi) (by simp only [List.length_drop, List.length_take]; omega) hm2 (fun o ho => hok o (List.mem_of_mem_take ho)) (by omega) (by omega) b0) ⟨ot, ot, ot, trivial⟩ (perm_one (k := 1) rfl) (by intro b hb; simp [bks, St.put] at hb ⊢; try first | exact hb | simp [hb] | (rcases hb with hb | hb <;> simp [hb]) | (rcases hb with hb | hb | hb <;> simp [hb])) ?_
  rintro _ _ ⟨rfl, rfl⟩
  refine AD.wk (y := ⟨155, [(0, _), (2, _), (4, _), (6, _), (7, _)], [⟨b0, 58, 2, [_, _]⟩, ⟨b4, 9, 1, [_]⟩]⟩) (Wk.as_ rfl rfl ⟨lk, lk, lk, lk, lk, trivial⟩) rfl ?_
  refine AD.done (by kernel_rfl) ?_
  refine CD.seq ?_
  refine CD.draw (bks (List.eraseIdx _ 0)) (by kernel_rfl) (fun _ h => (List.Sublist.map _ (List.eraseIdx_sublist _ 0)).subset h) ?_
  refine AD0.take (i := 0) rfl (by kernel_rfl) (by kernel_rfl) (by kernel_rfl) (by repeat (first | exact NP.body | apply NP.then | apply NP.cut | apply NP.inBlock | apply NP.round)) (wants_plain rfl) rfl (still_mv rfl ot) (by exact trivial) ?_
  refine AD0.take (i := 1) rfl (by kernel_rfl) (by kernel_rfl) (by kernel_rfl) (by repeat (first | exact NP.body | apply NP.then | apply NP.cut | apply NP.inBlock | apply NP.round)) (wants_plain rfl) rfl (still_r1 (mk := Op.load 9) rfl ot (by first | exact ld_blk (k := 1) rfl rfl Tryz.isAgg9 rfl | exact ld_fm cO_len Tryz.isAgg9 (by first | assumption | omega) rfl | exact ld_fm0 cO_len Tryz.isAgg9 (by first | assumption | omega) rfl | exact ld_row (k := 0) cO_len rfl rfl rfl Tryz.isAgg9 (by first | assumption | omega) rfl | exact ld_row0 (k := 0) cO_len rfl rfl rfl Tryz.isAgg9 (by first | assumption | omega) rfl | exact ld_row (k := 1) cO_len rfl rfl rfl Tryz.isAgg9 (by first | assumption | omega) rfl | exact ld_row0 (k := 1) cO_len rfl rfl rfl Tryz.isAgg9 (by first | assumption | omega) rfl | exact ld_i Tryz.isAgg9 rfl)) (by first | exact trivial | exact safe_blk (k0 := 0) rfl rfl) ?_
  refine AD0.take (i := 2) rfl (by kernel_rfl) (by kernel_rfl) (by kernel_rfl) (by repeat (first | exact NP.body | apply NP.then | apply NP.cut | apply NP.inBlock | apply NP.round)) (wants_plain rfl) rfl (still_mv rfl ot) (by exact trivial) ?_
  refine AD0.take (i := 3) rfl (by kernel_rfl) (by kernel_rfl) (by kernel_rfl) (by repeat (first | exact NP.body | apply NP.then | apply NP.cut | apply NP.inBlock | apply NP.round)) (wants_plain rfl) rfl (still_mv rfl ot) (by exact trivial) ?_
  refine AD0.take (i := 4) rfl (by kernel_rfl) (by kernel_rfl) (by kernel_rfl) (by repeat (first | exact NP.body | apply NP.then | apply NP.cut | apply NP.inBlock | apply NP.round)) (wants_plain rfl) rfl (still_mv rfl ot) (by exact trivial) ?_
  refine AD0.take (i := 5) rfl (by kernel_rfl) (by kernel_rfl) (by kernel_rfl) (by repeat (first | exact NP.body | apply NP.then | apply NP.cut | apply NP.inBlock | apply NP.round)) (wants_plain rfl) rfl (still_rs (l := (begF ops (ops.length - 1) 1)) (h := (ops.length - 1)) rfl ot ⟨_, ot⟩ ⟨_, ot⟩ (sl_mid cO_len (fun h => by cases h) (fun h => by cases h) Tryz.runUnderlying36 Tryz.sizeOf35 (by omega) (by omega))) (by exact trivial) ?_
  refine AD0.later rfl ?_
  refine AD.one (i := 6) (by kernel_rfl) ?_
  refine AStep.call rfl (wants_plain rfl) rfl rfl rfl Tryz.call21 (IH ((ops.take (ops.length - 1)).drop (begF ops (ops.length - 1) 1)) ((narF key f (ops.take (begF ops (ops.length - 1) 1)) (lo, hi)).1) ((narF key f (ops.take (begF ops (ops.length - 1) 1)) (lo, hi)).2) (by simp only [List.length_drop, List.length_take]; omega) hm3 (fun o ho => hok o (List.mem_of_mem_take (List.mem_of_mem_drop ho))) (by omega) (by omega) b0) ⟨ot, ot, ot, trivial⟩ (perm_one (k := 0) rfl) (by intro b hb; simp [bks, St.put] at hb ⊢; try first | exact hb | simp [hb] | (rcases hb with hb | hb <;> simp [hb]) | (rcases hb with hb | hb | hb <;> simp [hb])) ?_
  rintro _ _ ⟨rfl, rfl⟩
  refine AD.wk (y := ⟨155, [], [⟨b0, 58, 2, [_, _]⟩, ⟨b4, 9, 1, [_]⟩]⟩) (Wk.as_ rfl rfl trivial) rfl ?_
  refine AD.done (by kernel_rfl) ?_
  refine CD.ret ?_
  refine ⟨.inr rfl, _, [⟨b0, _, _, _⟩], (by repeat (first | exact List.Sublist.refl _ | (apply List.Sublist.cons_cons; exact List.nil_sublist _) | apply List.Sublist.cons)), ret_none Tryz.results21 , ?_⟩
  refine ⟨rfl, ?_⟩
  first | rw [hfh] | rw [hres]
 ·have hc0' := hc0
  (try simp only [V.cnd, ne_eq] at hc0')
  have hk3 : ¬ opK ops (ops.length - 1) = 3 := by rw [hoK]; omega
  refine CD.skip ?_
  refine sr_ ?_
  refine os_ mv_ ?_
  refine os_ mv_ ?_
  refine os_ (ix_ 5) ?_
  refine os_ (fa_ 0) ?_
  refine os_ ld_ ?_
  refine os_ bn_ ?_
  refine os_ mv_ ?_
  refine nm_ [0, 2, 4, 6, 8] ?_
  refine CD.cut (fun y__ => ∃ (ops2 : List OpL), ∃ (nt : Bool), ((narF key (f + 1) ops (lo, hi)) = leafB key ops2 nt (lo, hi)) ∧ (1 ≤ ops2.length) ∧ (ops2.length ≤ 40) ∧ (∀ o ∈ ops2, o.v.Ok) ∧ (ops2.length - 1 < ops2.length) ∧ y__ = (⟨155, [(0, .v (.pointer (some ⟨b0, 0, none⟩))), (2, .list 5 (ops2.flatMap cO) ops2.length), (4, .v (.pointer (some ⟨b4, 0, none⟩))), (6, .v (.int .i64 ((ops2.length - 1) : Nat))), (8, .v (.bool nt))], [⟨b4, 9, 1, [.v (.string key)]⟩, ⟨b0, 58, 2, [.list 1 (lo.flatMap cB) lo.length, .list 1 (hi.flatMap cB) hi.length]⟩]⟩ : St)) ?_ ?_
  ·skip
   refine sr_ ?_
   refine os_ mv_ ?_
   refine nm_ [0, 2, 4, 6, 8, 45] ?_
   refine CD.cond ot (fun hc1 => ?_) (fun hc1 => ?_)
   ·have hc1' := hc1
    (try simp only [V.cnd, ne_eq] at hc1')
    have hk5 : opK ops (ops.length - 1) = 5 := by rw [hoK]; simpa using hc1
    have hl2 : 2 ≤ ops.length := by rw [← hoK, hk5] at hre; have := runs_pos hre; rw [List.length_take] at this; omega
    have hrn : (narF key (f + 1) ops (lo, hi)) = leafB key (ops.take (ops.length - 1)) true (lo, hi) := by rw [narF, if_neg hk3, if_pos hk5]
    have htl : (ops.take (ops.length - 1)).length = (ops.length - 1) := by rw [List.length_take]; omega
    refine sr_ ?_
    refine os_ mv_ ?_
    refine os_ mv_ ?_
    refine OD.still (wants_plain rfl) rfl (still_rs (l := 0) rfl ot trivial ⟨_, ot⟩ (by first | exact sl_head cO_len (fun h => by cases h) Tryz.runUnderlying36 Tryz.sizeOf35 (by omega) | exact sl_row (fun h => by cases h) Tryz.runUnderlying36 Tryz.sizeOf35 (by omega) | exact sl_list (fun _ => rfl) (fun h => by cases h) Tryz.runUnderlying36 Tryz.sizeOf35 (by omega) (by omega))) ?_
    refine os_ mv_ ?_
    refine OD.wk (Wk.as_ (n := 155) (l' := [(0, _), (2, _), (4, _), (6, _), (8, _)]) (S' := [⟨b4, 9, 1, [_]⟩, ⟨b0, 58, 2, [_, _]⟩]) rfl rfl ⟨lk, lk, lk, lk, lk, trivial⟩) ?_
    refine OD.nil ?_
    refine CD.region ?_
    refine os_ mv_ ?_
    refine OD.still (wants_plain rfl) rfl (still_bin rfl ot opd_const (bin_sub (r := ((ops.length - 1 - 1 : Nat) : Int)) (by rw [show ((ops.length - 1 : Nat) : Int) - 1 = ((ops.length - 1 - 1 : Nat) : Int) by omega]; exact wrap_i64 (by omega) (by omega)))) ?_
    refine os_ mv_ ?_
    refine OD.wk (Wk.as_ (n := 155) (l' := [(0, _), (2, _), (4, _), (6, _), (8, _)]) (S' := [⟨b4, 9, 1, [_]⟩, ⟨b0, 58, 2, [_, _]⟩]) rfl rfl ⟨lk, lk, lk, lk, lk, trivial⟩) ?_
    refine OD.nil ?_
    refine ⟨(⟨155, [(0, .v (.pointer (some ⟨b0, 0, none⟩))), (2, .list 5 (((ops.take (ops.length - 1))).flatMap cO) ((ops.take (ops.length - 1))).length), (4, .v (.pointer (some ⟨b4, 0, none⟩))), (6, .v (.int .i64 ((((ops.take (ops.length - 1))).length - 1) : Nat))), (8, .v (.bool (true)))], [⟨b4, 9, 1, [.v (.string key)]⟩, ⟨b0, 58, 2, [.list 1 (lo.flatMap cB) lo.length, .list 1 (hi.flatMap cB) hi.length]⟩]⟩ : St), Wk.asS (n := 155) rfl (by repeat (first | exact List.Sublist.refl _ | apply List.Sublist.cons)) ⟨(by (repeat (first | exact look_hit | (apply look_at; focus (first | rfl | (rw [htl]; done) | (rw [hc1]; done))) | (apply look_miss; focus rfl))); done), (by (repeat (first | exact look_hit | (apply look_at; focus (first | rfl | (rw [htl]; done) | (rw [hc1]; done))) | (apply look_miss; focus rfl))); done), (by (repeat (first | exact look_hit | (apply look_at; focus (first | rfl | (rw [htl]; done) | (rw [hc1]; done))) | (apply look_miss; focus rfl))); done), (by (repeat (first | exact look_hit | (apply look_at; focus (first | rfl | (rw [htl]; done) | (rw [hc1]; done))) | (apply look_miss; focus rfl))); done), (by (repeat (first | exact look_hit | (apply look_at; focus (first | rfl | (rw [htl]; done) | (rw [hc1]; done))) | (apply look_miss; focus rfl))); done), trivial⟩, (ops.take (ops.length - 1)), true, hrn, (by omega), (by omega), (fun o ho => hok o (List.mem_of_mem_take ho)), (by omega), rfl⟩
   ·have hc1' := hc1
    (try simp only [V.cnd, ne_eq] at hc1')
    have hk5 : ¬ opK ops (ops.length - 1) = 5 := by rw [hoK]; simpa using hc1
    have hrn : (narF key (f + 1) ops (lo, hi)) = leafB key ops false (lo, hi) := by rw [narF, if_neg hk3, if_neg hk5]
    refine CD.skip ?_
    refine ⟨(⟨155, [(0, .v (.pointer (some ⟨b0, 0, none⟩))), (2, .list 5 ((ops).flatMap cO) (ops).length), (4, .v (.pointer (some ⟨b4, 0, none⟩))), (6, .v (.int .i64 (((ops).length - 1) : Nat))), (8, .v (.bool (false)))], [⟨b4, 9, 1, [.v (.string key)]⟩, ⟨b0, 58, 2, [.list 1 (lo.flatMap cB) lo.length, .list 1 (hi.flatMap cB) hi.length]⟩]⟩ : St), Wk.asS (n := 155) rfl (by repeat (first | exact List.Sublist.refl _ | apply List.Sublist.cons)) ⟨(by (repeat (first | exact look_hit | (apply look_at; focus (first | rfl | (rw [htl]; done) | (rw [hc1]; done))) | (apply look_miss; focus rfl))); done), (by (repeat (first | exact look_hit | (apply look_at; focus (first | rfl | (rw [htl]; done) | (rw [hc1]; done))) | (apply look_miss; focus rfl))); done), (by (repeat (first | exact look_hit | (apply look_at; focus (first | rfl | (rw [htl]; done) | (rw [hc1]; done))) | (apply look_miss; focus rfl))); done), (by (repeat (first | exact look_hit | (apply look_at; focus (first | rfl | (rw [htl]; done) | (rw [hc1]; done))) | (apply look_miss; focus rfl))); done), (by (repeat (first | exact look_hit | (apply look_at; focus (first | rfl | (rw [htl]; done) | (rw [hc1]; done))) | (apply look_miss; focus rfl))); done), trivial⟩, ops, false, hrn, hp0, h40, hok, hn1, rfl⟩
  rintro _ ⟨ops2, nt, hres, hp2, h402, hok2, hlt2, rfl⟩
  refine CD.cut (fun y__ => (¬ (ops2.length ≠ 3 ∨ (nt = true ∧ ops2[ops2.length - 1].k ≠ 7) ∨ (ops2[ops2.length - 1].k ≠ 6 ∧ ops2[ops2.length - 1].k ≠ 7))) ∧ y__ = (⟨155, [(0, .v (.pointer (some ⟨b0, 0, none⟩))), (2, .list 5 (ops2.flatMap cO) ops2.length), (4, .v (.pointer (some ⟨b4, 0, none⟩))), (6, .v (.int .i64 ((ops2.length - 1) : Nat))), (8, .v (.bool nt))], [⟨b4, 9, 1, [.v (.string key)]⟩, ⟨b0, 58, 2, [.list 1 (lo.flatMap cB) lo.length, .list 1 (hi.flatMap cB) hi.length]⟩]⟩ : St)) ?_ ?_
  ·skip
   refine sr_ ?_
   refine os_ mv_ ?_
   refine os_ bn_ ?_
   refine os_ mv_ ?_
   refine OD.split (t := 53) lk (fun hg53 => ?_) (fun hg53 => ?_)
   ·have hg53' := hg53; (try simp only [V.cnd, ne_eq] at hg53')
    refine sk_ ?_
    refine sk_ ?_
    refine sj_ ?_
    refine sj_ ?_
    refine sj_ ?_
    refine sj_ ?_
    refine sj_ ?_
    refine sj_ ?_
    refine sk_ ?_
    refine os_ pkT_ ?_
    refine os_ mv_ ?_
    refine sk_ ?_
    refine sk_ ?_
    refine sk_ ?_
    refine sk_ ?_
    refine sk_ ?_
    refine sk_ ?_
    refine sk_ ?_
    refine sj_ ?_
    refine sj_ ?_
    refine sj_ ?_
    refine sj_ ?_
    refine sj_ ?_
    refine sj_ ?_
    refine sk_ ?_
    refine os_ pkT_ ?_
    refine nm_ [0, 2, 4, 6, 8, 79] ?_
    refine CD.condT ot (by first | rfl | assumption) ?_
    have hcnd : (ops2.length ≠ 3 ∨ (nt = true ∧ ops2[ops2.length - 1].k ≠ 7) ∨ (ops2[ops2.length - 1].k ≠ 6 ∧ ops2[ops2.length - 1].k ≠ 7)) := by first | omega | (simp_all; omega) | simp_all
    have hret : leafB key ops2 nt (lo, hi) = (lo, hi) := by unfold leafB; rw [opK_at hlt2, if_pos hcnd]
    rw [hret] at hres
    refine CD.ret ?_
    refine ⟨.inr rfl, _, [⟨b0, _, _, _⟩], (by repeat (first | exact List.Sublist.refl _ | (apply List.Sublist.cons_cons; exact List.nil_sublist _) | apply List.Sublist.cons)), ret_none Tryz.results21 , ?_⟩
    refine ⟨rfl, ?_⟩
    first | rw [hfh] | rw [hres]
   ·have hg53' := hg53; (try simp only [V.cnd, ne_eq] at hg53')
    refine os_ mv_ ?_
    refine os_ mv_ ?_
    refine OD.split (t := 55) lk (fun hg55 => ?_) (fun hg55 => ?_)
    ·have hg55' := hg55; (try simp only [V.cnd, ne_eq] at hg55')
     refine os_ mv_ ?_
     refine os_ mv_ ?_
     refine os_ (ix_ 5 (h := by first | exact .l (j := (ops2.length - 1)) rfl hlt2 | exact .r (j := (ops2.length - 1)) rfl hlt2)) ?_
     refine os_ (fa_ 0) ?_
     refine os_ ld_ ?_
     refine os_ bn_ ?_
     refine os_ pkT_ ?_
     refine os_ pkF_ ?_
     refine os_ mv_ ?_
     refine OD.split (t := 64) lk (fun hg64 => ?_) (fun hg64 => ?_)
     ·have hg64' := hg64; (try simp only [V.cnd, ne_eq] at hg64')
      refine sk_ ?_
      refine sk_ ?_
      refine sk_ ?_
      refine sk_ ?_
      refine sk_ ?_
      refine sk_ ?_
      refine sk_ ?_
      refine sj_ ?_
      refine sj_ ?_
      refine sj_ ?_
      refine sj_ ?_
      refine sj_ ?_
      refine sj_ ?_
      refine sk_ ?_
      refine os_ pkT_ ?_
      refine nm_ [0, 2, 4, 6, 8, 79] ?_
      refine CD.condT ot (by first | rfl | assumption) ?_
      have hcnd : (ops2.length ≠ 3 ∨ (nt = true ∧ ops2[ops2.length - 1].k ≠ 7) ∨ (ops2[ops2.length - 1].k ≠ 6 ∧ ops2[ops2.length - 1].k ≠ 7)) := by first | omega | (simp_all; omega) | simp_all
      have hret : leafB key ops2 nt (lo, hi) = (lo, hi) := by unfold leafB; rw [opK_at hlt2, if_pos hcnd]
      rw [hret] at hres
      refine CD.ret ?_
      refine ⟨.inr rfl, _, [⟨b0, _, _, _⟩], (by repeat (first | exact List.Sublist.refl _ | (apply List.Sublist.cons_cons; exact List.nil_sublist _) | apply List.Sublist.cons)), ret_none Tryz.results21 , ?_⟩
      refine ⟨rfl, ?_⟩
      first | rw [hfh] | rw [hres]
     ·have hg64' := hg64; (try simp only [V.cnd, ne_eq] at hg64')
      refine os_ mv_ ?_
      refine os_ mv_ ?_
      refine os_ (ix_ 5 (h := by first | exact .l (j := (ops2.length - 1)) rfl hlt2 | exact .r (j := (ops2.length - 1)) rfl hlt2)) ?_
      refine os_ (fa_ 0) ?_
      refine os_ ld_ ?_
      refine os_ bn_ ?_
      refine os_ mv_ ?_
      refine OD.split (t := 71) lk (fun hg71 => ?_) (fun hg71 => ?_)
      ·have hg71' := hg71; (try simp only [V.cnd, ne_eq] at hg71')
       refine os_ mv_ ?_
       refine os_ mv_ ?_
       refine os_ (ix_ 5 (h := by first | exact .l (j := (ops2.length - 1)) rfl hlt2 | exact .r (j := (ops2.length - 1)) rfl hlt2)) ?_
       refine os_ (fa_ 0) ?_
       refine os_ ld_ ?_
       refine os_ bn_ ?_
       refine os_ pkT_ ?_
       refine os_ pkF_ ?_
       refine nm_ [0, 2, 4, 6, 8, 79] ?_
       refine CD.cond ot (fun hc2 => ?_) (fun hc2 => ?_)
       ·have hc2' := hc2
        (try simp only [V.cnd, ne_eq] at hc2')
        have hcnd : (ops2.length ≠ 3 ∨ (nt = true ∧ ops2[ops2.length - 1].k ≠ 7) ∨ (ops2[ops2.length - 1].k ≠ 6 ∧ ops2[ops2.length - 1].k ≠ 7)) := by first | omega | (simp_all; omega) | simp_all
        have hret : leafB key ops2 nt (lo, hi) = (lo, hi) := by unfold leafB; rw [opK_at hlt2, if_pos hcnd]
        rw [hret] at hres
        refine CD.ret ?_
        refine ⟨.inr rfl, _, [⟨b0, _, _, _⟩], (by repeat (first | exact List.Sublist.refl _ | (apply List.Sublist.cons_cons; exact List.nil_sublist _) | apply List.Sublist.cons)), ret_none Tryz.results21 , ?_⟩
        refine ⟨rfl, ?_⟩
        first | rw [hfh] | rw [hres]
       ·have hc2' := hc2
        (try simp only [V.cnd, ne_eq] at hc2')
        have hcnd : ¬ (ops2.length ≠ 3 ∨ (nt = true ∧ ops2[ops2.length - 1].k ≠ 7) ∨ (ops2[ops2.length - 1].k ≠ 6 ∧ ops2[ops2.length - 1].k ≠ 7)) := by first | omega | (simp_all; omega) | simp_all
        refine CD.skip ?_
        refine ⟨(⟨155, [(0, .v (.pointer (some ⟨b0, 0, none⟩))), (2, .list 5 (ops2.flatMap cO) ops2.length), (4, .v (.pointer (some ⟨b4, 0, none⟩))), (6, .v (.int .i64 ((ops2.length - 1) : Nat))), (8, .v (.bool nt))], [⟨b4, 9, 1, [.v (.string key)]⟩, ⟨b0, 58, 2, [.list 1 (lo.flatMap cB) lo.length, .list 1 (hi.flatMap cB) hi.length]⟩]⟩ : St), Wk.asS (n := 155) rfl (by repeat (first | exact List.Sublist.refl _ | apply List.Sublist.cons)) ⟨(by (repeat (first | exact look_hit | (apply look_at; focus (first | rfl | (simp; done) | (congr 2; omega))) | (apply look_miss; focus rfl))); done), (by (repeat (first | exact look_hit | (apply look_at; focus (first | rfl | (simp; done) | (congr 2; omega))) | (apply look_miss; focus rfl))); done), (by (repeat (first | exact look_hit | (apply look_at; focus (first | rfl | (simp; done) | (congr 2; omega))) | (apply look_miss; focus rfl))); done), (by (repeat (first | exact look_hit | (apply look_at; focus (first | rfl | (simp; done) | (congr 2; omega))) | (apply look_miss; focus rfl))); done), (by (repeat (first | exact look_hit | (apply look_at; focus (first | rfl | (simp; done) | (congr 2; omega))) | (apply look_miss; focus rfl))); done), trivial⟩, hcnd, rfl⟩
      ·have hg71' := hg71; (try simp only [V.cnd, ne_eq] at hg71')
       refine sk_ ?_
       refine sk_ ?_
       refine sk_ ?_
       refine sk_ ?_
       refine sk_ ?_
       refine sk_ ?_
       refine os_ pkF_ ?_
       refine os_ pkF_ ?_
       refine nm_ [0, 2, 4, 6, 8, 79] ?_
       refine CD.condF ot (by first | rfl | assumption) ?_
       have hcnd : ¬ (ops2.length ≠ 3 ∨ (nt = true ∧ ops2[ops2.length - 1].k ≠ 7) ∨ (ops2[ops2.length - 1].k ≠ 6 ∧ ops2[ops2.length - 1].k ≠ 7)) := by first | omega | (simp_all; omega) | simp_all
       refine CD.skip ?_
       refine ⟨(⟨155, [(0, .v (.pointer (some ⟨b0, 0, none⟩))), (2, .list 5 (ops2.flatMap cO) ops2.length), (4, .v (.pointer (some ⟨b4, 0, none⟩))), (6, .v (.int .i64 ((ops2.length - 1) : Nat))), (8, .v (.bool nt))], [⟨b4, 9, 1, [.v (.string key)]⟩, ⟨b0, 58, 2, [.list 1 (lo.flatMap cB) lo.length, .list 1 (hi.flatMap cB) hi.length]⟩]⟩ : St), Wk.asS (n := 155) rfl (by repeat (first | exact List.Sublist.refl _ | apply List.Sublist.cons)) ⟨(by (repeat (first | exact look_hit | (apply look_at; focus (first | rfl | (simp; done) | (congr 2; omega))) | (apply look_miss; focus rfl))); done), (by (repeat (first | exact look_hit | (apply look_at; focus (first | rfl | (simp; done) | (congr 2; omega))) | (apply look_miss; focus rfl))); done), (by (repeat (first | exact look_hit | (apply look_at; focus (first | rfl | (simp; done) | (congr 2; omega))) | (apply look_miss; focus rfl))); done), (by (repeat (first | exact look_hit | (apply look_at; focus (first | rfl | (simp; done) | (congr 2; omega))) | (apply look_miss; focus rfl))); done), (by (repeat (first | exact look_hit | (apply look_at; focus (first | rfl | (simp; done) | (congr 2; omega))) | (apply look_miss; focus rfl))); done), trivial⟩, hcnd, rfl⟩
    ·have hg55' := hg55; (try simp only [V.cnd, ne_eq] at hg55')
     refine sk_ ?_
     refine sk_ ?_
     refine sk_ ?_
     refine sk_ ?_
     refine sk_ ?_
     refine sk_ ?_
     refine os_ pkF_ ?_
     refine os_ pkF_ ?_
     refine os_ mv_ ?_
     refine os_ mv_ ?_
     refine os_ mv_ ?_
     refine os_ (ix_ 5 (h := by first | exact .l (j := (ops2.length - 1)) rfl hlt2 | exact .r (j := (ops2.length - 1)) rfl hlt2)) ?_
     refine os_ (fa_ 0) ?_
     refine os_ ld_ ?_
     refine os_ bn_ ?_
     refine os_ mv_ ?_
     refine OD.split (t := 71) lk (fun hg71 => ?_) (fun hg71 => ?_)
     ·have hg71' := hg71; (try simp only [V.cnd, ne_eq] at hg71')
      refine os_ mv_ ?_
      refine os_ mv_ ?_
      refine os_ (ix_ 5 (h := by first | exact .l (j := (ops2.length - 1)) rfl hlt2 | exact .r (j := (ops2.length - 1)) rfl hlt2)) ?_
      refine os_ (fa_ 0) ?_
      refine os_ ld_ ?_
      refine os_ bn_ ?_
      refine os_ pkT_ ?_
      refine os_ pkF_ ?_
      refine nm_ [0, 2, 4, 6, 8, 79] ?_
      refine CD.cond ot (fun hc2 => ?_) (fun hc2 => ?_)
      ·have hc2' := hc2
       (try simp only [V.cnd, ne_eq] at hc2')
       have hcnd : (ops2.length ≠ 3 ∨ (nt = true ∧ ops2[ops2.length - 1].k ≠ 7) ∨ (ops2[ops2.length - 1].k ≠ 6 ∧ ops2[ops2.length - 1].k ≠ 7)) := by first | omega | (simp_all; omega) | simp_all
       have hret : leafB key ops2 nt (lo, hi) = (lo, hi) := by unfold leafB; rw [opK_at hlt2, if_pos hcnd]
       rw [hret] at hres
       refine CD.ret ?_
       refine ⟨.inr rfl, _, [⟨b0, _, _, _⟩], (by repeat (first | exact List.Sublist.refl _ | (apply List.Sublist.cons_cons; exact List.nil_sublist _) | apply List.Sublist.cons)), ret_none Tryz.results21 , ?_⟩
       refine ⟨rfl, ?_⟩
       first | rw [hfh] | rw [hres]
      ·have hc2' := hc2
       (try simp only [V.cnd, ne_eq] at hc2')
       have hcnd : ¬ (ops2.length ≠ 3 ∨ (nt = true ∧ ops2[ops2.length - 1].k ≠ 7) ∨ (ops2[ops2.length - 1].k ≠ 6 ∧ ops2[ops2.length - 1].k ≠ 7)) := by first | omega | (simp_all; omega) | simp_all
       refine CD.skip ?_
       refine ⟨(⟨155, [(0, .v (.pointer (some ⟨b0, 0, none⟩))), (2, .list 5 (ops2.flatMap cO) ops2.length), (4, .v (.pointer (some ⟨b4, 0, none⟩))), (6, .v (.int .i64 ((ops2.length - 1) : Nat))), (8, .v (.bool nt))], [⟨b4, 9, 1, [.v (.string key)]⟩, ⟨b0, 58, 2, [.list 1 (lo.flatMap cB) lo.length, .list 1 (hi.flatMap cB) hi.length]⟩]⟩ : St), Wk.asS (n := 155) rfl (by repeat (first | exact List.Sublist.refl _ | apply List.Sublist.cons)) ⟨(by (repeat (first | exact look_hit | (apply look_at; focus (first | rfl | (simp; done) | (congr 2; omega))) | (apply look_miss; focus rfl))); done), (by (repeat (first | exact look_hit | (apply look_at; focus (first | rfl | (simp; done) | (congr 2; omega))) | (apply look_miss; focus rfl))); done), (by (repeat (first | exact look_hit | (apply look_at; focus (first | rfl | (simp; done) | (congr 2; omega))) | (apply look_miss; focus rfl))); done), (by (repeat (first | exact look_hit | (apply look_at; focus (first | rfl | (simp; done) | (congr 2; omega))) | (apply look_miss; focus rfl))); done), (by (repeat (first | exact look_hit | (apply look_at; focus (first | rfl | (simp; done) | (congr 2; omega))) | (apply look_miss; focus rfl))); done), trivial⟩, hcnd, rfl⟩
     ·have hg71' := hg71; (try simp only [V.cnd, ne_eq] at hg71')
      refine sk_ ?_
      refine sk_ ?_
      refine sk_ ?_
      refine sk_ ?_
      refine sk_ ?_
      refine sk_ ?_
      refine os_ pkF_ ?_
      refine os_ pkF_ ?_
      refine nm_ [0, 2, 4, 6, 8, 79] ?_
      refine CD.condF ot (by first | rfl | assumption) ?_
      have hcnd : ¬ (ops2.length ≠ 3 ∨ (nt = true ∧ ops2[ops2.length - 1].k ≠ 7) ∨ (ops2[ops2.length - 1].k ≠ 6 ∧ ops2[ops2.length - 1].k ≠ 7)) := by first | omega | (simp_all; omega) | simp_all
      refine CD.skip ?_
      refine ⟨(⟨155, [(0, .v (.pointer (some ⟨b0, 0, none⟩))), (2, .list 5 (ops2.flatMap cO) ops2.length), (4, .v (.pointer (some ⟨b4, 0, none⟩))), (6, .v (.int .i64 ((ops2.length - 1) : Nat))), (8, .v (.bool nt))], [⟨b4, 9, 1, [.v (.string key)]⟩, ⟨b0, 58, 2, [.list 1 (lo.flatMap cB) lo.length, .list 1 (hi.flatMap cB) hi.length]⟩]⟩ : St), Wk.asS (n := 155) rfl (by repeat (first | exact List.Sublist.refl _ | apply List.Sublist.cons)) ⟨(by (repeat (first | exact look_hit | (apply look_at; focus (first | rfl | (simp; done) | (congr 2; omega))) | (apply look_miss; focus rfl))); done), (by (repeat (first | exact look_hit | (apply look_at; focus (first | rfl | (simp; done) | (congr 2; omega))) | (apply look_miss; focus rfl))); done), (by (repeat (first | exact look_hit | (apply look_at; focus (first | rfl | (simp; done) | (congr 2; omega))) | (apply look_miss; focus rfl))); done), (by (repeat (first | exact look_hit | (apply look_at; focus (first | rfl | (simp; done) | (congr 2; omega))) | (apply look_miss; focus rfl))); done), (by (repeat (first | exact look_hit | (apply look_at; focus (first | rfl | (simp; done) | (congr 2; omega))) | (apply look_miss; focus rfl))); done), trivial⟩, hcnd, rfl⟩
  rintro _ ⟨hcnd, rfl⟩
  refine sr_ ?_
  refine os_ mv_ ?_
  refine OD.still (wants_plain rfl) rfl (still_rs (l := 0) (h := 2) rfl ot trivial ⟨_, opd_const⟩ (by first | exact sl_head cO_len (fun h => by cases h) Tryz.runUnderlying36 Tryz.sizeOf35 (by omega) | exact sl_row (fun h => by cases h) Tryz.runUnderlying36 Tryz.sizeOf35 (by omega) | exact sl_list (fun _ => rfl) (fun h => by cases h) Tryz.runUnderlying36 Tryz.sizeOf35 (by omega) (by omega))) ?_
  refine OD.still (wants_plain rfl) rfl (still_fn (ds := [_]) rfl ⟨ot, trivial⟩) ?_
  refine OD.call (wants_plain rfl) rfl rfl rfl Tryz.call37 (indexO_vc (ops2.take 2) 38 [.v (.pointer (some ⟨b4, 0, none⟩))] _ (keyCol key) Tryz.call38 (fun h _ => narcl1_vc h key b4) (by rw [List.length_take]; omega)) ⟨ot, ot, trivial⟩ (perm_one (k := 0) rfl) ?_; rintro _ SS2 ⟨rfl, hSS2⟩; rw [hSS2]; clear hSS2
  refine os_ mv_ ?_
  refine OD.wk (Wk.as_ (n := 155) (l' := [(0, _), (2, _), (6, _), (8, _), (9, _)]) (S' := [⟨b4, 9, 1, [_]⟩, ⟨b0, 58, 2, [_, _]⟩]) rfl rfl ⟨lk, lk, lk, lk, lk, trivial⟩) ?_
  refine OD.nil ?_
  refine sr_ ?_
  refine os_ mv_ ?_
  refine OD.still (wants_plain rfl) rfl (still_rs (l := 0) (h := 2) rfl ot trivial ⟨_, opd_const⟩ (by first | exact sl_head cO_len (fun h => by cases h) Tryz.runUnderlying36 Tryz.sizeOf35 (by omega) | exact sl_row (fun h => by cases h) Tryz.runUnderlying36 Tryz.sizeOf35 (by omega) | exact sl_list (fun _ => rfl) (fun h => by cases h) Tryz.runUnderlying36 Tryz.sizeOf35 (by omega) (by omega))) ?_
  refine OD.call (wants_plain rfl) rfl rfl rfl Tryz.call37 (indexO_vc (ops2.take 2) 39 [] [] litNN Tryz.call39 (fun h _ => narcl2_vp h) (by rw [List.length_take]; omega)) ⟨ot, opd_func, trivial⟩ (perm_none _) ?_; rintro _ SS2 ⟨rfl, hSS2⟩; rw [hSS2]; clear hSS2
  refine os_ mv_ ?_
  refine OD.wk (Wk.as_ (n := 155) (l' := [(0, _), (2, _), (6, _), (8, _), (9, _), (10, _)]) (S' := [⟨b4, 9, 1, [_]⟩, ⟨b0, 58, 2, [_, _]⟩]) rfl rfl ⟨lk, lk, lk, lk, lk, lk, trivial⟩) ?_
  refine OD.nil ?_
  refine CD.seq ?_
  refine sr_ ?_
  refine os_ mv_ ?_
  refine os_ bn_ ?_
  refine os_ mv_ ?_
  refine OD.split (t := 89) lk (fun hg89 => ?_) (fun hg89 => ?_)
  ·have hg89' := hg89; (try simp only [V.cnd, ne_eq] at hg89')
   refine sk_ ?_
   refine sk_ ?_
   refine os_ pkT_ ?_
   refine nm_ [0, 2, 6, 8, 9, 10, 92] ?_
   refine CD.condT ot (by first | rfl | assumption) ?_
   have hc2 : (idxG (keyCol key) (ops2.take 2)) < 0 ∨ (idxG litNN (ops2.take 2)) < 0 := by first | omega | (simp_all; omega) | simp_all
   have hret : leafB key ops2 nt (lo, hi) = (lo, hi) := by unfold leafB; rw [opK_at hlt2, if_neg hcnd, if_pos hc2]
   rw [hret] at hres
   refine CD.ret ?_
   refine ⟨.inr rfl, _, [⟨b0, _, _, _⟩], (by repeat (first | exact List.Sublist.refl _ | (apply List.Sublist.cons_cons; exact List.nil_sublist _) | apply List.Sublist.cons)), ret_none Tryz.results21 , ?_⟩
   refine ⟨rfl, ?_⟩
   first | rw [hfh] | rw [hres]
  ·have hg89' := hg89; (try simp only [V.cnd, ne_eq] at hg89')
   refine os_ mv_ ?_
   refine os_ bn_ ?_
   refine os_ pkF_ ?_
   refine nm_ [0, 2, 6, 8, 9, 10, 92] ?_
   refine CD.cond ot (fun hc3 => ?_) (fun hc3 => ?_)
   ·have hc3' := hc3
    (try simp only [V.cnd, ne_eq] at hc3')
    have hc2 : (idxG (keyCol key) (ops2.take 2)) < 0 ∨ (idxG litNN (ops2.take 2)) < 0 := by first | omega | (simp_all; omega) | simp_all
    have hret : leafB key ops2 nt (lo, hi) = (lo, hi) := by unfold leafB; rw [opK_at hlt2, if_neg hcnd, if_pos hc2]
    rw [hret] at hres
    refine CD.ret ?_
    refine ⟨.inr rfl, _, [⟨b0, _, _, _⟩], (by repeat (first | exact List.Sublist.refl _ | (apply List.Sublist.cons_cons; exact List.nil_sublist _) | apply List.Sublist.cons)), ret_none Tryz.results21 , ?_⟩
    refine ⟨rfl, ?_⟩
    first | rw [hfh] | rw [hres]
   ·have hc3' := hc3
    (try simp only [V.cnd, ne_eq] at hc3')
    have hc2 : ¬ ((idxG (keyCol key) (ops2.take 2)) < 0 ∨ (idxG litNN (ops2.take 2)) < 0) := by first | omega | (simp_all; omega) | simp_all
    have hLb := idxG_bd litNN (ops2.take 2)
    have hl3 : ops2.length = 3 := by omega
    rw [List.length_take] at hLb
    have hlL : (idxG litNN (ops2.take 2)).toNat < ops2.length := by omega
    have hlk : litK ops2 = (encR [ops2[(idxG litNN (ops2.take 2)).toNat].v]).1 := by unfold litK; rw [List.getD_eq_getElem?_getD, List.getElem?_eq_getElem hlL]; rfl
    have hres2 : (narF key (f + 1) ops (lo, hi)) = cutB (idxG (keyCol key) (ops2.take 2)) (ops2[ops2.length - 1].k == 6) nt (encR [ops2[(idxG litNN (ops2.take 2)).toNat].v]).1 (lo, hi) := by rw [hres]; unfold leafB; rw [opK_at hlt2, if_neg hcnd, if_neg hc2, hlk]
    have hev := enc_vp hG [ops2[(idxG litNN (ops2.take 2)).toNat].v] (by simp; omega) (fun v hv => by rw [List.mem_singleton] at hv; rw [hv]; exact hok2 _ (List.getElem_mem hlL))
    have hkl := enc_len [ops2[(idxG litNN (ops2.take 2)).toNat].v]
    unfold encD bytesL at hev
    refine CD.skip ?_
    refine sr_ ?_
    refine os_ mv_ ?_
    refine os_ mv_ ?_
    refine os_ (ix_ 5 (h := by first | exact .l (j := (idxG litNN (ops2.take 2)).toNat) (by omega) hlL | exact .r (j := (idxG litNN (ops2.take 2)).toNat) (by omega) hlL)) ?_
    refine os_ (fa_ 1) ?_
    refine OD.still (wants_plain rfl) rfl (still_r1 (mk := Op.load 26) rfl ot (ld_is Tryz.isAgg26 Tryz.sizeOf26 rfl (op_val hlL))) ?_
    refine OD.bldS (pl := numD 0 [_]) (zvs := [.int .i64 0, .int .i64 0, .string ⟨#[]⟩]) (ds := [_, _, _]) (wants_plain rfl) rfl rfl Tryz.zeroValue26 Tryz.runUnderlying23 Tryz.sizeOf26 rfl rfl (by kernel_rfl) ⟨rfl, ot, trivial⟩ (by exact rfl) (fill_full (by exact rfl) (by exact rfl) (by exact rfl)) (fun b99 => ?_)
    refine OD.perm (perm_q11 (S1 := [⟨b99, 26, 1 * 3, List.flatMap cV ([ops2[(idxG litNN (ops2.take 2)).toNat].v])⟩]) (A := [_, _])) ?_
    refine OD.giveL (t := 99) (Sq := [⟨b99, 26, 1 * 3, List.flatMap cV ([ops2[(idxG litNN (ops2.take 2)).toNat].v])⟩]) lk (ownL_row (g := cV) (sz := 3) (e := 26) (ls := [ops2[(idxG litNN (ops2.take 2)).toNat].v]) (Nat.le_refl _) (show 1 ≤ maxLen by decide)) (fm_len cV_len _) (perm_r11 (A := [_, _])) ?_
    refine OD.callP (wants_plain rfl) rfl rfl rfl Tryz.call12 (hev) ⟨ot, trivial⟩ ?_
    refine os_ mv_ ?_
    refine os_ ex_ ?_
    refine os_ ex_ ?_
    refine os_ mv_ ?_
    refine os_ mv_ ?_
    refine OD.wk (Wk.as_ (n := 155) (l' := [(0, _), (2, _), (6, _), (8, _), (9, _), (11, _)]) (S' := [⟨b4, 9, 1, [_]⟩, ⟨b0, 58, 2, [_, _]⟩]) rfl rfl ⟨lk, lk, lk, lk, lk, lk, trivial⟩) ?_
    refine OD.nil ?_
    refine sr_ ?_
    refine os_ mv_ ?_
    refine os_ mv_ ?_
    refine os_ (ix_ 5 (h := by first | exact .l (j := (ops2.length - 1)) rfl hlt2 | exact .r (j := (ops2.length - 1)) rfl hlt2)) ?_
    refine os_ (fa_ 0) ?_
    refine os_ ld_ ?_
    refine os_ bn_ ?_
    refine os_ mv_ ?_
    refine nm_ [0, 8, 9, 11, 13] ?_
    refine CD.cut (fun y__ => ∃ (b1 : BdL), (b1 = (bif (ops2[ops2.length - 1].k == 6) || (((idxG (keyCol key) (ops2.take 2)) == 0) == nt) then lowF (encR [ops2[(idxG litNN (ops2.take 2)).toNat].v]).1 (lo, hi) else (lo, hi))) ∧ (b1.1.length ≤ 100) ∧ (b1.2.length ≤ 100) ∧ y__ = (⟨155, [(0, .v (.pointer (some ⟨b0, 0, none⟩))), (8, .v (.bool nt)), (9, .v (.int .i64 (idxG (keyCol key) (ops2.take 2)))), (11, .list 1 ((encR [ops2[(idxG litNN (ops2.take 2)).toNat].v]).1.flatMap cB) (encR [ops2[(idxG litNN (ops2.take 2)).toNat].v]).1.length), (13, .v (.bool (ops2[ops2.length - 1].k == 6)))], [⟨b0, 58, 2, [.list 1 (b1.1.flatMap cB) b1.1.length, .list 1 (b1.2.flatMap cB) b1.2.length]⟩]⟩ : St)) ?_ ?_
    ·skip
     refine sr_ ?_
     refine os_ mv_ ?_
     refine os_ mv_ ?_
     refine OD.split (t := 110) lk (fun hg110 => ?_) (fun hg110 => ?_)
     ·have hg110' := hg110; (try simp only [V.cnd, ne_eq] at hg110')
      refine sk_ ?_
      refine sk_ ?_
      refine sk_ ?_
      refine sk_ ?_
      refine os_ pkT_ ?_
      refine nm_ [0, 8, 9, 11, 13, 115] ?_
      refine CD.condT ot (by first | rfl | assumption) ?_
      have he1 : ((ops2[ops2.length - 1].k == 6) || (((idxG (keyCol key) (ops2.take 2)) == 0) == nt)) = true := by first | rw [hg110, Bool.true_or] | rw [hc4, Bool.or_true]
      refine sr_ ?_
      refine os_ mv_ ?_
      refine os_ mv_ ?_
      refine os_ nc_ ?_
      refine os_ (fa_ 0) ?_
      refine os_ (lb_ 1) ?_
      refine OD.callP (wants_plain rfl) rfl rfl rfl Tryz.call40 (bcmp_vp (encR [ops2[(idxG litNN (ops2.take 2)).toNat].v]).1 lo) ⟨ot, ot, trivial⟩ ?_
      refine os_ bn_ ?_
      refine OD.wk (Wk.as_ (n := 155) (l' := [(0, _), (8, _), (9, _), (11, _), (13, _), (122, _)]) (S' := [⟨b4, 9, 1, [_]⟩, ⟨b0, 58, 2, [_, _]⟩]) rfl rfl ⟨lk, lk, lk, lk, lk, lk, trivial⟩) ?_
      refine OD.nil ?_
      refine CD.cond ot (fun hc5 => ?_) (fun hc5 => ?_)
      ·have hc5' := hc5
       (try simp only [V.cnd, ne_eq] at hc5')
       have hcp : compareBytes (encR [ops2[(idxG litNN (ops2.take 2)).toNat].v]).1 lo > 0 := by simpa using hc5
       have hfb : ((encR [ops2[(idxG litNN (ops2.take 2)).toNat].v]).1, hi) = (bif (ops2[ops2.length - 1].k == 6) || (((idxG (keyCol key) (ops2.take 2)) == 0) == nt) then lowF (encR [ops2[(idxG litNN (ops2.take 2)).toNat].v]).1 (lo, hi) else (lo, hi)) := by rw [he1]; show _ = lowF _ _; unfold lowF; rw [if_pos hcp]
       refine CD.region ?_
       refine os_ mv_ ?_
       refine os_ mv_ ?_
       refine OD.callP (wants_plain rfl) rfl rfl rfl Tryz.call41 (clone_vp (encR [ops2[(idxG litNN (ops2.take 2)).toNat].v]).1 (by omega)) ⟨ot, trivial⟩ ?_
       refine os_ nc_ ?_
       refine os_ (fa_ 0) ?_
       refine OD.store (k := 1) (cs' := [_, _]) (wants_plain rfl) rfl rfl ot rfl rfl ot rfl rfl Tryz.sizeOf39 rfl rfl rfl ?_
       refine OD.wk (Wk.as_ (n := 155) (l' := [(0, _), (8, _), (9, _), (11, _), (13, _)]) (S' := [⟨b4, 9, 1, [_]⟩, ⟨b0, 58, 2, [_, _]⟩]) rfl rfl ⟨lk, lk, lk, lk, lk, trivial⟩) ?_
       refine OD.nil ?_
       refine ⟨(⟨155, [(0, .v (.pointer (some ⟨b0, 0, none⟩))), (8, .v (.bool nt)), (9, .v (.int .i64 (idxG (keyCol key) (ops2.take 2)))), (11, .list 1 ((encR [ops2[(idxG litNN (ops2.take 2)).toNat].v]).1.flatMap cB) (encR [ops2[(idxG litNN (ops2.take 2)).toNat].v]).1.length), (13, .v (.bool (ops2[ops2.length - 1].k == 6)))], [⟨b0, 58, 2, [.list 1 ((((encR [ops2[(idxG litNN (ops2.take 2)).toNat].v]).1, hi)).1.flatMap cB) (((encR [ops2[(idxG litNN (ops2.take 2)).toNat].v]).1, hi)).1.length, .list 1 ((((encR [ops2[(idxG litNN (ops2.take 2)).toNat].v]).1, hi)).2.flatMap cB) (((encR [ops2[(idxG litNN (ops2.take 2)).toNat].v]).1, hi)).2.length]⟩]⟩ : St), Wk.asS (n := 155) rfl (by repeat (first | exact List.Sublist.refl _ | (apply List.Sublist.cons_cons; exact List.nil_sublist _) | apply List.Sublist.cons)) ⟨(by (repeat (first | exact look_hit | (apply look_at; focus (first | rfl | (simp; done) | (congr 2; omega))) | (apply look_miss; focus rfl))); done), (by (repeat (first | exact look_hit | (apply look_at; focus (first | rfl | (simp; done) | (congr 2; omega))) | (apply look_miss; focus rfl))); done), (by (repeat (first | exact look_hit | (apply look_at; focus (first | rfl | (simp; done) | (congr 2; omega))) | (apply look_miss; focus rfl))); done), (by (repeat (first | exact look_hit | (apply look_at; focus (first | rfl | (simp; done) | (congr 2; omega))) | (apply look_miss; focus rfl))); done), (by (repeat (first | exact look_hit | (apply look_at; focus (first | rfl | (simp; done) | (congr 2; omega))) | (apply look_miss; focus rfl))); done), trivial⟩, ((encR [ops2[(idxG litNN (ops2.take 2)).toNat].v]).1, hi), hfb, (by first | exact hkl | exact hlo), hhi, rfl⟩
      ·have hc5' := hc5
       (try simp only [V.cnd, ne_eq] at hc5')
       have hcp : ¬ compareBytes (encR [ops2[(idxG litNN (ops2.take 2)).toNat].v]).1 lo > 0 := by simpa using hc5
       have hfb : (lo, hi) = (bif (ops2[ops2.length - 1].k == 6) || (((idxG (keyCol key) (ops2.take 2)) == 0) == nt) then lowF (encR [ops2[(idxG litNN (ops2.take 2)).toNat].v]).1 (lo, hi) else (lo, hi)) := by rw [he1]; show _ = lowF _ _; unfold lowF; rw [if_neg hcp]
       refine CD.skip ?_
       refine ⟨(⟨155, [(0, .v (.pointer (some ⟨b0, 0, none⟩))), (8, .v (.bool nt)), (9, .v (.int .i64 (idxG (keyCol key) (ops2.take 2)))), (11, .list 1 ((encR [ops2[(idxG litNN (ops2.take 2)).toNat].v]).1.flatMap cB) (encR [ops2[(idxG litNN (ops2.take 2)).toNat].v]).1.length), (13, .v (.bool (ops2[ops2.length - 1].k == 6)))], [⟨b0, 58, 2, [.list 1 (((lo, hi)).1.flatMap cB) ((lo, hi)).1.length, .list 1 (((lo, hi)).2.flatMap cB) ((lo, hi)).2.length]⟩]⟩ : St), Wk.asS (n := 155) rfl (by repeat (first | exact List.Sublist.refl _ | (apply List.Sublist.cons_cons; exact List.nil_sublist _) | apply List.Sublist.cons)) ⟨(by (repeat (first | exact look_hit | (apply look_at; focus (first | rfl | (simp; done) | (congr 2; omega))) | (apply look_miss; focus rfl))); done), (by (repeat (first | exact look_hit | (apply look_at; focus (first | rfl | (simp; done) | (congr 2; omega))) | (apply look_miss; focus rfl))); done), (by (repeat (first | exact look_hit | (apply look_at; focus (first | rfl | (simp; done) | (congr 2; omega))) | (apply look_miss; focus rfl))); done), (by (repeat (first | exact look_hit | (apply look_at; focus (first | rfl | (simp; done) | (congr 2; omega))) | (apply look_miss; focus rfl))); done), (by (repeat (first | exact look_hit | (apply look_at; focus (first | rfl | (simp; done) | (congr 2; omega))) | (apply look_miss; focus rfl))); done), trivial⟩, (lo, hi), hfb, (by first | exact hkl | exact hlo), hhi, rfl⟩
     ·have hg110' := hg110; (try simp only [V.cnd, ne_eq] at hg110')
      refine os_ mv_ ?_
      refine os_ bn_ ?_
      refine os_ mv_ ?_
      refine OD.still (wants_T rfl rfl rfl lk (by first | rfl | assumption)) rfl (still_bin rfl ot ot (bin_beql Tryz.underlying4)) ?_
      refine os_ pkF_ ?_
      refine OD.wk (Wk.as_ (n := 155) (l' := [(0, _), (8, _), (9, _), (11, _), (13, _), (115, _)]) (S' := [⟨b4, 9, 1, [_]⟩, ⟨b0, 58, 2, [_, _]⟩]) rfl rfl ⟨lk, lk, lk, lk, lk, lk, trivial⟩) ?_
      refine OD.nil ?_
      refine CD.cond ot (fun hc4 => ?_) (fun hc4 => ?_)
      ·have hc4' := hc4
       (try simp only [V.cnd, ne_eq] at hc4')
       have he1 : ((ops2[ops2.length - 1].k == 6) || (((idxG (keyCol key) (ops2.take 2)) == 0) == nt)) = true := by first | rw [hg110, Bool.true_or] | rw [hc4, Bool.or_true]
       refine sr_ ?_
       refine os_ mv_ ?_
       refine os_ mv_ ?_
       refine os_ nc_ ?_
       refine os_ (fa_ 0) ?_
       refine os_ (lb_ 1) ?_
       refine OD.callP (wants_plain rfl) rfl rfl rfl Tryz.call40 (bcmp_vp (encR [ops2[(idxG litNN (ops2.take 2)).toNat].v]).1 lo) ⟨ot, ot, trivial⟩ ?_
       refine os_ bn_ ?_
       refine OD.wk (Wk.as_ (n := 155) (l' := [(0, _), (8, _), (9, _), (11, _), (13, _), (122, _)]) (S' := [⟨b4, 9, 1, [_]⟩, ⟨b0, 58, 2, [_, _]⟩]) rfl rfl ⟨lk, lk, lk, lk, lk, lk, trivial⟩) ?_
       refine OD.nil ?_
       refine CD.cond ot (fun hc5 => ?_) (fun hc5 => ?_)
       ·have hc5' := hc5
        (try simp only [V.cnd, ne_eq] at hc5')
        have hcp : compareBytes (encR [ops2[(idxG litNN (ops2.take 2)).toNat].v]).1 lo > 0 := by simpa using hc5
        have hfb : ((encR [ops2[(idxG litNN (ops2.take 2)).toNat].v]).1, hi) = (bif (ops2[ops2.length - 1].k == 6) || (((idxG (keyCol key) (ops2.take 2)) == 0) == nt) then lowF (encR [ops2[(idxG litNN (ops2.take 2)).toNat].v]).1 (lo, hi) else (lo, hi)) := by rw [he1]; show _ = lowF _ _; unfold lowF; rw [if_pos hcp]
        refine CD.region ?_
        refine os_ mv_ ?_
        refine os_ mv_ ?_
        refine OD.callP (wants_plain rfl) rfl rfl rfl Tryz.call41 (clone_vp (encR [ops2[(idxG litNN (ops2.take 2)).toNat].v]).1 (by omega)) ⟨ot, trivial⟩ ?_
        refine os_ nc_ ?_
        refine os_ (fa_ 0) ?_
        refine OD.store (k := 1) (cs' := [_, _]) (wants_plain rfl) rfl rfl ot rfl rfl ot rfl rfl Tryz.sizeOf39 rfl rfl rfl ?_
        refine OD.wk (Wk.as_ (n := 155) (l' := [(0, _), (8, _), (9, _), (11, _), (13, _)]) (S' := [⟨b4, 9, 1, [_]⟩, ⟨b0, 58, 2, [_, _]⟩]) rfl rfl ⟨lk, lk, lk, lk, lk, trivial⟩) ?_
        refine OD.nil ?_
        refine ⟨(⟨155, [(0, .v (.pointer (some ⟨b0, 0, none⟩))), (8, .v (.bool nt)), (9, .v (.int .i64 (idxG (keyCol key) (ops2.take 2)))), (11, .list 1 ((encR [ops2[(idxG litNN (ops2.take 2)).toNat].v]).1.flatMap cB) (encR [ops2[(idxG litNN (ops2.take 2)).toNat].v]).1.length), (13, .v (.bool (ops2[ops2.length - 1].k == 6)))], [⟨b0, 58, 2, [.list 1 ((((encR [ops2[(idxG litNN (ops2.take 2)).toNat].v]).1, hi)).1.flatMap cB) (((encR [ops2[(idxG litNN (ops2.take 2)).toNat].v]).1, hi)).1.length, .list 1 ((((encR [ops2[(idxG litNN (ops2.take 2)).toNat].v]).1, hi)).2.flatMap cB) (((encR [ops2[(idxG litNN (ops2.take 2)).toNat].v]).1, hi)).2.length]⟩]⟩ : St), Wk.asS (n := 155) rfl (by repeat (first | exact List.Sublist.refl _ | (apply List.Sublist.cons_cons; exact List.nil_sublist _) | apply List.Sublist.cons)) ⟨(by (repeat (first | exact look_hit | (apply look_at; focus (first | rfl | (simp; done) | (congr 2; omega))) | (apply look_miss; focus rfl))); done), (by (repeat (first | exact look_hit | (apply look_at; focus (first | rfl | (simp; done) | (congr 2; omega))) | (apply look_miss; focus rfl))); done), (by (repeat (first | exact look_hit | (apply look_at; focus (first | rfl | (simp; done) | (congr 2; omega))) | (apply look_miss; focus rfl))); done), (by (repeat (first | exact look_hit | (apply look_at; focus (first | rfl | (simp; done) | (congr 2; omega))) | (apply look_miss; focus rfl))); done), (by (repeat (first | exact look_hit | (apply look_at; focus (first | rfl | (simp; done) | (congr 2; omega))) | (apply look_miss; focus rfl))); done), trivial⟩, ((encR [ops2[(idxG litNN (ops2.take 2)).toNat].v]).1, hi), hfb, (by first | exact hkl | exact hlo), hhi, rfl⟩
       ·have hc5' := hc5
        (try simp only [V.cnd, ne_eq] at hc5')
        have hcp : ¬ compareBytes (encR [ops2[(idxG litNN (ops2.take 2)).toNat].v]).1 lo > 0 := by simpa using hc5
        have hfb : (lo, hi) = (bif (ops2[ops2.length - 1].k == 6) || (((idxG (keyCol key) (ops2.take 2)) == 0) == nt) then lowF (encR [ops2[(idxG litNN (ops2.take 2)).toNat].v]).1 (lo, hi) else (lo, hi)) := by rw [he1]; show _ = lowF _ _; unfold lowF; rw [if_neg hcp]
        refine CD.skip ?_
        refine ⟨(⟨155, [(0, .v (.pointer (some ⟨b0, 0, none⟩))), (8, .v (.bool nt)), (9, .v (.int .i64 (idxG (keyCol key) (ops2.take 2)))), (11, .list 1 ((encR [ops2[(idxG litNN (ops2.take 2)).toNat].v]).1.flatMap cB) (encR [ops2[(idxG litNN (ops2.take 2)).toNat].v]).1.length), (13, .v (.bool (ops2[ops2.length - 1].k == 6)))], [⟨b0, 58, 2, [.list 1 (((lo, hi)).1.flatMap cB) ((lo, hi)).1.length, .list 1 (((lo, hi)).2.flatMap cB) ((lo, hi)).2.length]⟩]⟩ : St), Wk.asS (n := 155) rfl (by repeat (first | exact List.Sublist.refl _ | (apply List.Sublist.cons_cons; exact List.nil_sublist _) | apply List.Sublist.cons)) ⟨(by (repeat (first | exact look_hit | (apply look_at; focus (first | rfl | (simp; done) | (congr 2; omega))) | (apply look_miss; focus rfl))); done), (by (repeat (first | exact look_hit | (apply look_at; focus (first | rfl | (simp; done) | (congr 2; omega))) | (apply look_miss; focus rfl))); done), (by (repeat (first | exact look_hit | (apply look_at; focus (first | rfl | (simp; done) | (congr 2; omega))) | (apply look_miss; focus rfl))); done), (by (repeat (first | exact look_hit | (apply look_at; focus (first | rfl | (simp; done) | (congr 2; omega))) | (apply look_miss; focus rfl))); done), (by (repeat (first | exact look_hit | (apply look_at; focus (first | rfl | (simp; done) | (congr 2; omega))) | (apply look_miss; focus rfl))); done), trivial⟩, (lo, hi), hfb, (by first | exact hkl | exact hlo), hhi, rfl⟩
      ·have hc4' := hc4
       (try simp only [V.cnd, ne_eq] at hc4')
       have hfb : (lo, hi) = (bif (ops2[ops2.length - 1].k == 6) || (((idxG (keyCol key) (ops2.take 2)) == 0) == nt) then lowF (encR [ops2[(idxG litNN (ops2.take 2)).toNat].v]).1 (lo, hi) else (lo, hi)) := by rw [hg110, hc4]; rfl
       refine CD.skip ?_
       refine ⟨(⟨155, [(0, .v (.pointer (some ⟨b0, 0, none⟩))), (8, .v (.bool nt)), (9, .v (.int .i64 (idxG (keyCol key) (ops2.take 2)))), (11, .list 1 ((encR [ops2[(idxG litNN (ops2.take 2)).toNat].v]).1.flatMap cB) (encR [ops2[(idxG litNN (ops2.take 2)).toNat].v]).1.length), (13, .v (.bool (ops2[ops2.length - 1].k == 6)))], [⟨b0, 58, 2, [.list 1 (((lo, hi)).1.flatMap cB) ((lo, hi)).1.length, .list 1 (((lo, hi)).2.flatMap cB) ((lo, hi)).2.length]⟩]⟩ : St), Wk.asS (n := 155) rfl (by repeat (first | exact List.Sublist.refl _ | (apply List.Sublist.cons_cons; exact List.nil_sublist _) | apply List.Sublist.cons)) ⟨(by (repeat (first | exact look_hit | (apply look_at; focus (first | rfl | (simp; done) | (congr 2; omega))) | (apply look_miss; focus rfl))); done), (by (repeat (first | exact look_hit | (apply look_at; focus (first | rfl | (simp; done) | (congr 2; omega))) | (apply look_miss; focus rfl))); done), (by (repeat (first | exact look_hit | (apply look_at; focus (first | rfl | (simp; done) | (congr 2; omega))) | (apply look_miss; focus rfl))); done), (by (repeat (first | exact look_hit | (apply look_at; focus (first | rfl | (simp; done) | (congr 2; omega))) | (apply look_miss; focus rfl))); done), (by (repeat (first | exact look_hit | (apply look_at; focus (first | rfl | (simp; done) | (congr 2; omega))) | (apply look_miss; focus rfl))); done), trivial⟩, (lo, hi), hfb, (by first | exact hkl | exact hlo), hhi, rfl⟩
    rintro _ ⟨b1, hb1, hbl1, hbl2, rfl⟩
    refine sr_ ?_
    refine os_ mv_ ?_
    refine os_ mv_ ?_
    refine OD.split (t := 129) lk (fun hg129 => ?_) (fun hg129 => ?_)
    ·have hg129' := hg129; (try simp only [V.cnd, ne_eq] at hg129')
     refine sk_ ?_
     refine sk_ ?_
     refine sk_ ?_
     refine sk_ ?_
     refine os_ pkT_ ?_
     refine nm_ [0, 11, 134] ?_
     refine CD.condT ot (by first | rfl | assumption) ?_
     have he2 : ((ops2[ops2.length - 1].k == 6) || !(((idxG (keyCol key) (ops2.take 2)) == 0) == nt)) = true := by first | rw [hg129, Bool.true_or] | rw [hc6, Bool.or_true]
     have he3 : (narF key (f + 1) ops (lo, hi)) = highF (encR [ops2[(idxG litNN (ops2.take 2)).toNat].v]).1 b1 := by rw [hres2]; unfold cutB; rw [show ((ops2[ops2.length - 1].k == 6) || ((idxG (keyCol key) (ops2.take 2)) == 0) != nt) = true from he2, ← hb1]; rfl
     refine sr_ ?_
     refine os_ mv_ ?_
     refine os_ nc_ ?_
     refine os_ (fa_ 1) ?_
     refine os_ (lb_ 0) ?_
     refine os_ ln_ ?_
     refine os_ bn_ ?_
     refine os_ mv_ ?_
     refine OD.split (t := 141) lk (fun hg141 => ?_) (fun hg141 => ?_)
     ·have hg141' := hg141; (try simp only [V.cnd, ne_eq] at hg141')
      refine sk_ ?_
      refine sk_ ?_
      refine sk_ ?_
      refine sk_ ?_
      refine sk_ ?_
      refine sk_ ?_
      refine sk_ ?_
      refine os_ pkT_ ?_
      refine nm_ [0, 11, 149] ?_
      refine CD.condT ot (by first | rfl | assumption) ?_
      have hcq : b1.2.length = 0 ∨ compareBytes (encR [ops2[(idxG litNN (ops2.take 2)).toNat].v]).1 b1.2 < 0 := by first | exact .inl (by omega) | exact .inr (by simpa using hc7)
      have hfh : (narF key (f + 1) ops (lo, hi)) = (b1.1, (encR [ops2[(idxG litNN (ops2.take 2)).toNat].v]).1) := by rw [he3]; unfold highF; rw [if_pos hcq]
      refine CD.region ?_
      refine os_ mv_ ?_
      refine os_ mv_ ?_
      refine OD.callP (wants_plain rfl) rfl rfl rfl Tryz.call41 (clone_vp (encR [ops2[(idxG litNN (ops2.take 2)).toNat].v]).1 (by omega)) ⟨ot, trivial⟩ ?_
      refine os_ nc_ ?_
      refine os_ (fa_ 1) ?_
      refine OD.store (k := 0) (cs' := [_, _]) (wants_plain rfl) rfl rfl ot rfl rfl ot rfl rfl Tryz.sizeOf39 rfl rfl rfl ?_
      refine OD.wk (Wk.as_ (n := 155) (l' := []) (S' := [⟨b0, 58, 2, [_, _]⟩]) rfl rfl trivial) ?_
      refine OD.nil ?_
      refine ⟨.inl rfl, _, [⟨b0, _, _, _⟩], (by repeat (first | exact List.Sublist.refl _ | (apply List.Sublist.cons_cons; exact List.nil_sublist _) | apply List.Sublist.cons)), ret_none Tryz.results21 , ?_⟩
      refine ⟨rfl, ?_⟩
      first | rw [hfh] | rw [hres]
     ·have hg141' := hg141; (try simp only [V.cnd, ne_eq] at hg141')
      refine os_ mv_ ?_
      refine os_ mv_ ?_
      refine os_ nc_ ?_
      refine os_ (fa_ 1) ?_
      refine os_ (lb_ 0) ?_
      refine OD.callP (wants_T rfl rfl rfl lk (by first | rfl | assumption)) rfl rfl rfl Tryz.call40 (bcmp_vp (encR [ops2[(idxG litNN (ops2.take 2)).toNat].v]).1 b1.2) ⟨ot, ot, trivial⟩ ?_
      refine os_ bn_ ?_
      refine os_ pkF_ ?_
      refine OD.wk (Wk.as_ (n := 155) (l' := [(0, _), (11, _), (149, _)]) (S' := [⟨b0, 58, 2, [_, _]⟩]) rfl rfl ⟨lk, lk, lk, trivial⟩) ?_
      refine OD.nil ?_
      refine CD.cond ot (fun hc7 => ?_) (fun hc7 => ?_)
      ·have hc7' := hc7
       (try simp only [V.cnd, ne_eq] at hc7')
       have hcq : b1.2.length = 0 ∨ compareBytes (encR [ops2[(idxG litNN (ops2.take 2)).toNat].v]).1 b1.2 < 0 := by first | exact .inl (by omega) | exact .inr (by simpa using hc7)
       have hfh : (narF key (f + 1) ops (lo, hi)) = (b1.1, (encR [ops2[(idxG litNN (ops2.take 2)).toNat].v]).1) := by rw [he3]; unfold highF; rw [if_pos hcq]
       refine CD.region ?_
       refine os_ mv_ ?_
       refine os_ mv_ ?_
       refine OD.callP (wants_plain rfl) rfl rfl rfl Tryz.call41 (clone_vp (encR [ops2[(idxG litNN (ops2.take 2)).toNat].v]).1 (by omega)) ⟨ot, trivial⟩ ?_
       refine os_ nc_ ?_
       refine os_ (fa_ 1) ?_
       refine OD.store (k := 0) (cs' := [_, _]) (wants_plain rfl) rfl rfl ot rfl rfl ot rfl rfl Tryz.sizeOf39 rfl rfl rfl ?_
       refine OD.wk (Wk.as_ (n := 155) (l' := []) (S' := [⟨b0, 58, 2, [_, _]⟩]) rfl rfl trivial) ?_
       refine OD.nil ?_
       refine ⟨.inl rfl, _, [⟨b0, _, _, _⟩], (by repeat (first | exact List.Sublist.refl _ | (apply List.Sublist.cons_cons; exact List.nil_sublist _) | apply List.Sublist.cons)), ret_none Tryz.results21 , ?_⟩
       refine ⟨rfl, ?_⟩
       first | rw [hfh] | rw [hres]
      ·have hc7' := hc7
       (try simp only [V.cnd, ne_eq] at hc7')
       have hcq : ¬ (b1.2.length = 0 ∨ compareBytes (encR [ops2[(idxG litNN (ops2.take 2)).toNat].v]).1 b1.2 < 0) := by (have hcr : ¬ compareBytes (encR [ops2[(idxG litNN (ops2.take 2)).toNat].v]).1 b1.2 < 0 := by simpa using hc7); omega
       have hfh : (narF key (f + 1) ops (lo, hi)) = b1 := by rw [he3]; unfold highF; rw [if_neg hcq]
       refine CD.skip ?_
       refine ⟨.inl rfl, _, [⟨b0, _, _, _⟩], (by repeat (first | exact List.Sublist.refl _ | (apply List.Sublist.cons_cons; exact List.nil_sublist _) | apply List.Sublist.cons)), ret_none Tryz.results21 , ?_⟩
       refine ⟨rfl, ?_⟩
       first | rw [hfh] | rw [hres]
    ·have hg129' := hg129; (try simp only [V.cnd, ne_eq] at hg129')
     refine os_ mv_ ?_
     refine os_ bn_ ?_
     refine os_ mv_ ?_
     refine OD.still (wants_T rfl rfl rfl lk (by first | rfl | assumption)) rfl (still_bin rfl ot ot (bin_bneq Tryz.underlying4)) ?_
     refine os_ pkF_ ?_
     refine OD.wk (Wk.as_ (n := 155) (l' := [(0, _), (11, _), (134, _)]) (S' := [⟨b0, 58, 2, [_, _]⟩]) rfl rfl ⟨lk, lk, lk, trivial⟩) ?_
     refine OD.nil ?_
     refine CD.cond ot (fun hc6 => ?_) (fun hc6 => ?_)
     ·have hc6' := hc6
      (try simp only [V.cnd, ne_eq] at hc6')
      have he2 : ((ops2[ops2.length - 1].k == 6) || !(((idxG (keyCol key) (ops2.take 2)) == 0) == nt)) = true := by first | rw [hg129, Bool.true_or] | rw [hc6, Bool.or_true]
      have he3 : (narF key (f + 1) ops (lo, hi)) = highF (encR [ops2[(idxG litNN (ops2.take 2)).toNat].v]).1 b1 := by rw [hres2]; unfold cutB; rw [show ((ops2[ops2.length - 1].k == 6) || ((idxG (keyCol key) (ops2.take 2)) == 0) != nt) = true from he2, ← hb1]; rfl
      refine sr_ ?_
      refine os_ mv_ ?_
      refine os_ nc_ ?_
      refine os_ (fa_ 1) ?_
      refine os_ (lb_ 0) ?_
      refine os_ ln_ ?_
      refine os_ bn_ ?_
      refine os_ mv_ ?_
      refine OD.split (t := 141) lk (fun hg141 => ?_) (fun hg141 => ?_)
      ·have hg141' := hg141; (try simp only [V.cnd, ne_eq] at hg141')
       refine sk_ ?_
       refine sk_ ?_
       refine sk_ ?_
       refine sk_ ?_
       refine sk_ ?_
       refine sk_ ?_
       refine sk_ ?_
       refine os_ pkT_ ?_
       refine nm_ [0, 11, 149] ?_
       refine CD.condT ot (by first | rfl | assumption) ?_
       have hcq : b1.2.length = 0 ∨ compareBytes (encR [ops2[(idxG litNN (ops2.take 2)).toNat].v]).1 b1.2 < 0 := by first | exact .inl (by omega) | exact .inr (by simpa using hc7)
       have hfh : (narF key (f + 1) ops (lo, hi)) = (b1.1, (encR [ops2[(idxG litNN (ops2.take 2)).toNat].v]).1) := by rw [he3]; unfold highF; rw [if_pos hcq]
       refine CD.region ?_
       refine os_ mv_ ?_
       refine os_ mv_ ?_
       refine OD.callP (wants_plain rfl) rfl rfl rfl Tryz.call41 (clone_vp (encR [ops2[(idxG litNN (ops2.take 2)).toNat].v]).1 (by omega)) ⟨ot, trivial⟩ ?_
       refine os_ nc_ ?_
       refine os_ (fa_ 1) ?_
       refine OD.store (k := 0) (cs' := [_, _]) (wants_plain rfl) rfl rfl ot rfl rfl ot rfl rfl Tryz.sizeOf39 rfl rfl rfl ?_
       refine OD.wk (Wk.as_ (n := 155) (l' := []) (S' := [⟨b0, 58, 2, [_, _]⟩]) rfl rfl trivial) ?_
       refine OD.nil ?_
       refine ⟨.inl rfl, _, [⟨b0, _, _, _⟩], (by repeat (first | exact List.Sublist.refl _ | (apply List.Sublist.cons_cons; exact List.nil_sublist _) | apply List.Sublist.cons)), ret_none Tryz.results21 , ?_⟩
       refine ⟨rfl, ?_⟩
       first | rw [hfh] | rw [hres]
      ·have hg141' := hg141; (try simp only [V.cnd, ne_eq] at hg141')
       refine os_ mv_ ?_
       refine os_ mv_ ?_
       refine os_ nc_ ?_
       refine os_ (fa_ 1) ?_
       refine os_ (lb_ 0) ?_
       refine OD.callP (wants_T rfl rfl rfl lk (by first | rfl | assumption)) rfl rfl rfl Tryz.call40 (bcmp_vp (encR [ops2[(idxG litNN (ops2.take 2)).toNat].v]).1 b1.2) ⟨ot, ot, trivial⟩ ?_
       refine os_ bn_ ?_
       refine os_ pkF_ ?_
       refine OD.wk (Wk.as_ (n := 155) (l' := [(0, _), (11, _), (149, _)]) (S' := [⟨b0, 58, 2, [_, _]⟩]) rfl rfl ⟨lk, lk, lk, trivial⟩) ?_
       refine OD.nil ?_
       refine CD.cond ot (fun hc7 => ?_) (fun hc7 => ?_)
       ·have hc7' := hc7
        (try simp only [V.cnd, ne_eq] at hc7')
        have hcq : b1.2.length = 0 ∨ compareBytes (encR [ops2[(idxG litNN (ops2.take 2)).toNat].v]).1 b1.2 < 0 := by first | exact .inl (by omega) | exact .inr (by simpa using hc7)
        have hfh : (narF key (f + 1) ops (lo, hi)) = (b1.1, (encR [ops2[(idxG litNN (ops2.take 2)).toNat].v]).1) := by rw [he3]; unfold highF; rw [if_pos hcq]
        refine CD.region ?_
        refine os_ mv_ ?_
        refine os_ mv_ ?_
        refine OD.callP (wants_plain rfl) rfl rfl rfl Tryz.call41 (clone_vp (encR [ops2[(idxG litNN (ops2.take 2)).toNat].v]).1 (by omega)) ⟨ot, trivial⟩ ?_
        refine os_ nc_ ?_
        refine os_ (fa_ 1) ?_
        refine OD.store (k := 0) (cs' := [_, _]) (wants_plain rfl) rfl rfl ot rfl rfl ot rfl rfl Tryz.sizeOf39 rfl rfl rfl ?_
        refine OD.wk (Wk.as_ (n := 155) (l' := []) (S' := [⟨b0, 58, 2, [_, _]⟩]) rfl rfl trivial) ?_
        refine OD.nil ?_
        refine ⟨.inl rfl, _, [⟨b0, _, _, _⟩], (by repeat (first | exact List.Sublist.refl _ | (apply List.Sublist.cons_cons; exact List.nil_sublist _) | apply List.Sublist.cons)), ret_none Tryz.results21 , ?_⟩
        refine ⟨rfl, ?_⟩
        first | rw [hfh] | rw [hres]
       ·have hc7' := hc7
        (try simp only [V.cnd, ne_eq] at hc7')
        have hcq : ¬ (b1.2.length = 0 ∨ compareBytes (encR [ops2[(idxG litNN (ops2.take 2)).toNat].v]).1 b1.2 < 0) := by (have hcr : ¬ compareBytes (encR [ops2[(idxG litNN (ops2.take 2)).toNat].v]).1 b1.2 < 0 := by simpa using hc7); omega
        have hfh : (narF key (f + 1) ops (lo, hi)) = b1 := by rw [he3]; unfold highF; rw [if_neg hcq]
        refine CD.skip ?_
        refine ⟨.inl rfl, _, [⟨b0, _, _, _⟩], (by repeat (first | exact List.Sublist.refl _ | (apply List.Sublist.cons_cons; exact List.nil_sublist _) | apply List.Sublist.cons)), ret_none Tryz.results21 , ?_⟩
        refine ⟨rfl, ?_⟩
        first | rw [hfh] | rw [hres]
     ·have hc6' := hc6
      (try simp only [V.cnd, ne_eq] at hc6')
      have he2 : ((ops2[ops2.length - 1].k == 6) || !(((idxG (keyCol key) (ops2.take 2)) == 0) == nt)) = false := by rw [hg129, hc6]; rfl
      have hfh : (narF key (f + 1) ops (lo, hi)) = b1 := by rw [hres2]; unfold cutB; rw [show ((ops2[ops2.length - 1].k == 6) || ((idxG (keyCol key) (ops2.take 2)) == 0) != nt) = false from he2, ← hb1]; rfl
      refine CD.skip ?_
      refine ⟨.inl rfl, _, [⟨b0, _, _, _⟩], (by repeat (first | exact List.Sublist.refl _ | (apply List.Sublist.cons_cons; exact List.nil_sublist _) | apply List.Sublist.cons)), ret_none Tryz.results21 , ?_⟩
      refine ⟨rfl, ?_⟩
      first | rw [hfh] | rw [hres]

theorem nar_vc (hG : (2, [Value.int .i64 m]) ∈ G) (key : ByteArray) : ∀ (f : Nat), f ≤ 40 → ∀ (ops : List OpL) (lo hi : List UInt8), ops.length ≤ f → runs 0 ops = some 1 → (∀ o ∈ ops, o.v.Ok) → lo.length ≤ 100 → hi.length ≤ 100 → ∀ b0, VC Tryz.prog G 21 [.v (.pointer (some ⟨b0, 0, none⟩)), .v (.string key), .list 5 (ops.flatMap cO) ops.length] [⟨b0, 58, 2, [.list 1 (lo.flatMap cB) lo.length, .list 1 (hi.flatMap cB) hi.length]⟩] (fun r S => r = .tup [] ∧ S = [⟨b0, 58, 2, [.list 1 ((narF key f ops (lo, hi)).1.flatMap cB) (narF key f ops (lo, hi)).1.length, .list 1 ((narF key f ops (lo, hi)).2.flatMap cB) (narF key f ops (lo, hi)).2.length]⟩]) := by
 intro f
 induction f with
 | zero =>
  intro _ ops lo hi hl hr
  have := runs_pos hr
  omega
 | succ f IH =>
  intro hf ops lo hi hl hr hok hlo hhi b0
  exact nar_step hG key f (by omega) (IH (by omega)) ops lo hi hl (by omega) hr hok hlo hhi b0
/-- What expr.Bounds answers. -/
def boundsR (l : List ColL) (ops : List OpL) : BdL × Int :=
  if colsF l ≠ 0 then (([], []), colsF l) else if ops.length = 0 then (([], []), 0) else if (kindR l ops).2 ≠ 0 then (([], []), (kindR l ops).2)
  else if (kindR l ops).1 ≠ 1 ∧ (kindR l ops).1 ≠ 0 then (([], []), 4) else (narF (l.getD 0 ⟨⟨#[]⟩, 0⟩).n ops.length ops ([], []), 0)
def bdD (r : BdL × Int) : D := .tup [bytesL r.1.1, bytesL r.1.2, .v (.int .i64 r.2)]
theorem cols_pos {l : List ColL} (h : colsF l = 0) : 0 < l.length := by
 unfold colsF at h
 split at h
 ·cases h
 ·omega
theorem expr_runs1 {ops : List OpL} (h : exprF ops = 0) : runs 0 ops = some 1 := by
  obtain ⟨_, h0⟩ := expr_ok h
  have key : ∀ (l : List OpL) (k : Int), exprL k l = 0 → runs k l = some 1 := by
    intro l
    induction l with
    | nil => intro k h; rw [exprL] at h; split at h; · rename_i e; rw [runs, e]
             · cases h
    | cons o r ih =>
      intro k h
      rw [exprL] at h
      split at h
      · rename_i e; rw [runs, if_pos e]; exact ih _ h
      · rename_i e; exact absurd h e
  exact key ops 0 h0

theorem places58_Ex8 : ∀ w, ((#[{ name := "low", type := 39, offset := 0, embedded := false, tag := "", pkgPath := "padlock/expr", byteOffset := 0 }, { name := "high", type := 39, offset := 1, embedded := false, tag := "", pkgPath := "padlock/expr", byteOffset := 24 }] : Array Field).mapM fun f => do pure (f.offset, ← sizeOf f.type) : Sem (Array (Nat × Nat))).run Tryz.prog w = .ok #[(0, 1), (1, 1)] w := fun w => by simp [Tryz.sizeOf39]

set_option maxHeartbeats 4000000 in
set_option maxRecDepth 100000 in
theorem Bounds_vp (hm : (3, marksC) ∈ G) (hw : (0, wordsC) ∈ G) (ht : (1, typesC) ∈ G) (hG : (2, [Value.int .i64 m]) ∈ G) (l : List ColL) (hl : l.length ≤ 1000) (hcok : ∀ c ∈ l, c.n.size ≤ maxLen) (ops : List OpL) (ho : ∀ o ∈ ops, o.nm.size ≤ maxLen) (hok : ∀ o ∈ ops, o.v.Ok) : VP Tryz.prog G 10 [.list 2 (l.flatMap cC) l.length, .list 5 (ops.flatMap cO) ops.length] (bdD (boundsR l ops)) := by
 refine VC.body Tryz.func10 rfl Tryz.ntmps10 (Nat.le_of_ble_eq_true rfl) fun X0 w0 S00 => ?_
 have hmx : maxLen = 9223372036854775807 := rfl
 have hcv := Cols_vp hm hw ht l (by omega) hcok
 have hkv := kind_vp hm hw ht l hl hcok ops ho
 unfold twoI at hkv
 unfold bdD bytesL
 refine sr_ ?_
 refine os_ mv_ ?_
 refine os_ mv_ ?_
 refine os_ mv_ ?_
 refine nm_ [0, 1] ?_
 refine CD.seq ?_
 refine sr_ ?_
 refine os_ mv_ ?_
 refine OD.callP (wants_plain rfl) rfl rfl rfl Tryz.call20 (hcv) ⟨ot, trivial⟩ ?_
 refine os_ mv_ ?_
 refine OD.wk (Wk.as_ (n := 50) (l' := [(0, _), (1, _), (7, _)]) (S' := []) rfl rfl ⟨lk, lk, lk, trivial⟩) ?_
 refine OD.nil ?_
 refine sr_ ?_
 refine os_ mv_ ?_
 refine os_ bn_ ?_
 refine nm_ [0, 1, 7, 13] ?_
 refine CD.cond ot (fun hc0 => ?_) (fun hc0 => ?_)
 ·have hc0' := hc0
  (try simp only [V.cnd, ne_eq] at hc0')
  have h0 : colsF l ≠ 0 := by simpa using hc0
  have hres : boundsR l ops = (([], []), colsF l) := by unfold boundsR; rw [if_pos h0]
  refine sr_ ?_
  refine os_ mv_ ?_
  refine os_ mv_ ?_
  refine os_ mv_ ?_
  refine os_ mv_ ?_
  refine nm_ [4, 5, 6] ?_
  refine CD.wk (Wk.giveNil (t := 4) (sz := 1) lk) ?_
  refine CD.wk (Wk.giveNil (t := 5) (sz := 1) lk) ?_
  refine CD.ret ?_
  refine ⟨.inr rfl, _, [], List.nil_sublist _, ret_three Tryz.results10 (res_tmp (Nat.le_of_ble_eq_true rfl) lk) (res_tmp (Nat.le_of_ble_eq_true rfl) lk) (res_tmp (Nat.le_of_ble_eq_true rfl) lk), ?_⟩
  rw [hres]; exact ⟨rfl, rfl⟩
 ·have hc0' := hc0
  (try simp only [V.cnd, ne_eq] at hc0')
  have h0 : ¬ colsF l ≠ 0 := by simpa using hc0
  have h0p := cols_pos (Classical.not_not.1 h0)
  refine CD.skip ?_
  refine CD.seq ?_
  refine sr_ ?_
  refine os_ mv_ ?_
  refine os_ ln_ ?_
  refine os_ bn_ ?_
  refine nm_ [0, 1, 17] ?_
  refine CD.cond ot (fun hc1 => ?_) (fun hc1 => ?_)
  ·have hc1' := hc1
   (try simp only [V.cnd, ne_eq] at hc1')
   have h1 : ops.length = 0 := by simpa using hc1
   have hres : boundsR l ops = (([], []), 0) := by unfold boundsR; rw [if_neg h0, if_pos h1]
   refine sr_ ?_
   refine os_ mv_ ?_
   refine os_ mv_ ?_
   refine os_ mv_ ?_
   refine nm_ [4, 5, 6] ?_
   refine CD.wk (Wk.giveNil (t := 4) (sz := 1) lk) ?_
   refine CD.wk (Wk.giveNil (t := 5) (sz := 1) lk) ?_
   refine CD.ret ?_
   refine ⟨.inr rfl, _, [], List.nil_sublist _, ret_three Tryz.results10 (res_tmp (Nat.le_of_ble_eq_true rfl) lk) (res_tmp (Nat.le_of_ble_eq_true rfl) lk) (res_tmp (Nat.le_of_ble_eq_true rfl) lk), ?_⟩
   rw [hres]; exact ⟨rfl, rfl⟩
  ·have hc1' := hc1
   (try simp only [V.cnd, ne_eq] at hc1')
   have h1 : ¬ ops.length = 0 := by simpa using hc1
   refine CD.skip ?_
   refine sr_ ?_
   refine os_ mv_ ?_
   refine os_ mv_ ?_
   refine OD.callP (wants_plain rfl) rfl rfl rfl Tryz.call9 (hkv) ⟨ot, ot, trivial⟩ ?_
   refine os_ mv_ ?_
   refine os_ ex_ ?_
   refine os_ ex_ ?_
   refine os_ mv_ ?_
   refine os_ mv_ ?_
   refine OD.wk (Wk.as_ (n := 50) (l' := [(0, _), (1, _), (6, _), (8, _)]) (S' := []) rfl rfl ⟨lk, lk, lk, lk, trivial⟩) ?_
   refine OD.nil ?_
   refine CD.seq ?_
   refine sr_ ?_
   refine os_ mv_ ?_
   refine os_ bn_ ?_
   refine nm_ [0, 1, 6, 8, 25] ?_
   refine CD.cond ot (fun hc2 => ?_) (fun hc2 => ?_)
   ·have hc2' := hc2
    (try simp only [V.cnd, ne_eq] at hc2')
    have h2 : (kindR l ops).2 ≠ 0 := by simpa using hc2
    have hres : boundsR l ops = (([], []), (kindR l ops).2) := by unfold boundsR; rw [if_neg h0, if_neg h1, if_pos h2]
    refine sr_ ?_
    refine os_ mv_ ?_
    refine os_ mv_ ?_
    refine os_ mv_ ?_
    refine os_ mv_ ?_
    refine nm_ [4, 5, 6] ?_
    refine CD.wk (Wk.giveNil (t := 4) (sz := 1) lk) ?_
    refine CD.wk (Wk.giveNil (t := 5) (sz := 1) lk) ?_
    refine CD.ret ?_
    refine ⟨.inr rfl, _, [], List.nil_sublist _, ret_three Tryz.results10 (res_tmp (Nat.le_of_ble_eq_true rfl) lk) (res_tmp (Nat.le_of_ble_eq_true rfl) lk) (res_tmp (Nat.le_of_ble_eq_true rfl) lk), ?_⟩
    rw [hres]; exact ⟨rfl, rfl⟩
   ·have hc2' := hc2
    (try simp only [V.cnd, ne_eq] at hc2')
    have h2 : ¬ (kindR l ops).2 ≠ 0 := by simpa using hc2
    obtain ⟨k1, k2, k3⟩ := kind_ok (Classical.not_not.1 h2)
    have hrn := expr_runs1 k2
    obtain ⟨h40, _⟩ := expr_ok k2
    refine CD.skip ?_
    refine CD.seq ?_
    refine sr_ ?_
    refine os_ mv_ ?_
    refine os_ bn_ ?_
    refine os_ mv_ ?_
    refine OD.split (t := 29) lk (fun hg29 => ?_) (fun hg29 => ?_)
    ·have hg29' := hg29; (try simp only [V.cnd, ne_eq] at hg29')
     refine os_ mv_ ?_
     refine os_ bn_ ?_
     refine os_ pkT_ ?_
     refine nm_ [0, 1, 32] ?_
     refine CD.cond ot (fun hc3 => ?_) (fun hc3 => ?_)
     ·have hc3' := hc3
      (try simp only [V.cnd, ne_eq] at hc3')
      have h3 : (kindR l ops).1 ≠ 1 ∧ (kindR l ops).1 ≠ 0 := by simp_all
      have hres : boundsR l ops = (([], []), 4) := by unfold boundsR; rw [if_neg h0, if_neg h1, if_neg h2, if_pos h3]
      refine sr_ ?_
      refine os_ mv_ ?_
      refine os_ mv_ ?_
      refine os_ mv_ ?_
      refine nm_ [4, 5, 6] ?_
      refine CD.wk (Wk.giveNil (t := 4) (sz := 1) lk) ?_
      refine CD.wk (Wk.giveNil (t := 5) (sz := 1) lk) ?_
      refine CD.ret ?_
      refine ⟨.inr rfl, _, [], List.nil_sublist _, ret_three Tryz.results10 (res_tmp (Nat.le_of_ble_eq_true rfl) lk) (res_tmp (Nat.le_of_ble_eq_true rfl) lk) (res_tmp (Nat.le_of_ble_eq_true rfl) lk), ?_⟩
      rw [hres]; exact ⟨rfl, rfl⟩
     ·have hc3' := hc3
      (try simp only [V.cnd, ne_eq] at hc3')
      have h3 : ¬ ((kindR l ops).1 ≠ 1 ∧ (kindR l ops).1 ≠ 0) := by simp_all
      have hres : boundsR l ops = (narF l[0].n ops.length ops ([], []), 0) := by unfold boundsR; rw [if_neg h0, if_neg h1, if_neg h2, if_neg h3, List.getD_eq_getElem?_getD, List.getElem?_eq_getElem h0p]; rfl
      refine CD.skip ?_
      refine sr_ ?_
      refine OD.still (wants_plain rfl) rfl (still_bld (pl := []) (ds := [_, _]) rfl Tryz.zeroValue58 Tryz.runUnderlying58 places58_Ex8 trivial rfl rfl) ?_
      refine OD.box (ds := [_, _]) (wants_plain rfl) rfl rfl ot rfl rfl (fun b34 => ?_)
      refine OD.wk (Wk.nil2 (k := 0) (sz := 1) (sz' := 1) rfl) ?_
      refine os_ mv_ ?_
      refine OD.wk (Wk.as_ (n := 50) (l' := [(0, _), (1, _), (9, _)]) (S' := [⟨b34, 58, 2, [_, _]⟩]) rfl rfl ⟨lk, lk, lk, trivial⟩) ?_
      refine OD.nil ?_
      refine sr_ ?_
      refine os_ mv_ ?_
      refine os_ mv_ ?_
      refine OD.still (wants_plain rfl) rfl (still_r2 (mk := Op.indexAddr 30) rfl ot opd_const (by first | exact ix_list Tryz.runUnderlying30 Tryz.sizeOf33 (j := 0) rfl h0p | exact ix_row Tryz.runUnderlying30 Tryz.sizeOf33 (j := 0) rfl h0p)) ?_
      refine os_ (fa_ 0) ?_
      refine os_ ld_ ?_
      refine os_ mv_ ?_
      refine OD.call (wants_plain rfl) rfl rfl rfl Tryz.call21 (nar_vc hG l[0].n ops.length h40 ops [] [] (Nat.le_refl _) hrn hok (Nat.zero_le _) (Nat.zero_le _) b34) ⟨ot, ot, ot, trivial⟩ (perm_one (k := 0) rfl) ?_
      rintro _ _ ⟨rfl, rfl⟩
      refine OD.wk (Wk.as_ (n := 50) (l' := [(9, _)]) (S' := [⟨b34, 58, 2, [_, _]⟩]) rfl rfl ⟨lk, trivial⟩) ?_
      refine OD.nil ?_
      refine CD.seq ?_
      refine CD.draw (bks _) (by kernel_rfl) (fun _ h => h) ?_
      refine AD0.take (i := 0) rfl (by kernel_rfl) (by kernel_rfl) (by kernel_rfl) (by repeat (first | exact NP.body | apply NP.then | apply NP.cut | apply NP.inBlock | apply NP.round)) (wants_plain rfl) rfl (still_mv rfl ot) (by exact trivial) ?_
      refine AD0.take (i := 1) rfl (by kernel_rfl) (by kernel_rfl) (by kernel_rfl) (by repeat (first | exact NP.body | apply NP.then | apply NP.cut | apply NP.inBlock | apply NP.round)) (wants_plain rfl) rfl (still_r1 (mk := Op.nilCheck) rfl ot (by first | exact nc_ptr | exact nc_iptr)) (by exact trivial) ?_
      refine AD0.take (i := 2) rfl (by kernel_rfl) (by kernel_rfl) (by kernel_rfl) (by repeat (first | exact NP.body | apply NP.then | apply NP.cut | apply NP.inBlock | apply NP.round)) (wants_plain rfl) rfl (still_r1 (mk := fun y => Op.fieldAddr 58 y 0) rfl ot (by first | exact fa_ptr (off := 0) Tryz.runUnderlying58 rfl Tryz.sizeOf39 rfl | exact fa_iptr (off := 0) Tryz.runUnderlying58 rfl Tryz.sizeOf39 rfl)) (by exact trivial) ?_
      refine AD0.take (i := 3) rfl (by kernel_rfl) (by kernel_rfl) (by kernel_rfl) (by repeat (first | exact NP.body | apply NP.then | apply NP.cut | apply NP.inBlock | apply NP.round)) (wants_plain rfl) rfl (still_r1 (mk := Op.load 39) rfl ot (by first | exact ld_blk (k := 0) rfl rfl Tryz.isAgg39 rfl | exact ld_fm cC_len Tryz.isAgg39 (by first | assumption | omega) rfl | exact ld_fm0 cC_len Tryz.isAgg39 (by first | assumption | omega) rfl | exact ld_row (k := 0) cC_len rfl rfl rfl Tryz.isAgg39 (by first | assumption | omega) rfl | exact ld_row0 (k := 0) cC_len rfl rfl rfl Tryz.isAgg39 (by first | assumption | omega) rfl | exact ld_i Tryz.isAgg39 rfl)) (by first | exact trivial | exact safe_blk (k0 := 0) rfl rfl) ?_
      refine AD0.take (i := 4) rfl (by kernel_rfl) (by kernel_rfl) (by kernel_rfl) (by repeat (first | exact NP.body | apply NP.then | apply NP.cut | apply NP.inBlock | apply NP.round)) (wants_plain rfl) rfl (still_mv rfl ot) (by exact trivial) ?_
      refine AD0.take (i := 5) rfl (by kernel_rfl) (by kernel_rfl) (by kernel_rfl) (by repeat (first | exact NP.body | apply NP.then | apply NP.cut | apply NP.inBlock | apply NP.round)) (wants_plain rfl) rfl (still_r1 (mk := Op.nilCheck) rfl ot (by first | exact nc_ptr | exact nc_iptr)) (by exact trivial) ?_
      refine AD0.take (i := 6) rfl (by kernel_rfl) (by kernel_rfl) (by kernel_rfl) (by repeat (first | exact NP.body | apply NP.then | apply NP.cut | apply NP.inBlock | apply NP.round)) (wants_plain rfl) rfl (still_r1 (mk := fun y => Op.fieldAddr 58 y 1) rfl ot (by first | exact fa_ptr (off := 1) Tryz.runUnderlying58 rfl Tryz.sizeOf39 rfl | exact fa_iptr (off := 1) Tryz.runUnderlying58 rfl Tryz.sizeOf39 rfl)) (by exact trivial) ?_
      refine AD0.take (i := 7) rfl (by kernel_rfl) (by kernel_rfl) (by kernel_rfl) (by repeat (first | exact NP.body | apply NP.then | apply NP.cut | apply NP.inBlock | apply NP.round)) (wants_plain rfl) rfl (still_r1 (mk := Op.load 39) rfl ot (by first | exact ld_blk (k := 0) rfl rfl Tryz.isAgg39 rfl | exact ld_fm cC_len Tryz.isAgg39 (by first | assumption | omega) rfl | exact ld_fm0 cC_len Tryz.isAgg39 (by first | assumption | omega) rfl | exact ld_row (k := 0) cC_len rfl rfl rfl Tryz.isAgg39 (by first | assumption | omega) rfl | exact ld_row0 (k := 0) cC_len rfl rfl rfl Tryz.isAgg39 (by first | assumption | omega) rfl | exact ld_i Tryz.isAgg39 rfl)) (by first | exact trivial | exact safe_blk (k0 := 0) rfl rfl) ?_
      refine AD0.take (i := 8) rfl (by kernel_rfl) (by kernel_rfl) (by kernel_rfl) (by repeat (first | exact NP.body | apply NP.then | apply NP.cut | apply NP.inBlock | apply NP.round)) (wants_plain rfl) rfl (still_as rfl ot) (by exact trivial) ?_
      refine AD0.take (i := 9) rfl (by kernel_rfl) (by kernel_rfl) (by kernel_rfl) (by repeat (first | exact NP.body | apply NP.then | apply NP.cut | apply NP.inBlock | apply NP.round)) (wants_plain rfl) rfl (still_as rfl ot) (by exact trivial) ?_
      refine AD0.take (i := 10) rfl (by kernel_rfl) (by kernel_rfl) (by kernel_rfl) (by repeat (first | exact NP.body | apply NP.then | apply NP.cut | apply NP.inBlock | apply NP.round)) (wants_plain rfl) rfl (still_as rfl opd_const) (by exact trivial) ?_
      refine AD0.later rfl ?_
      refine AD.wk (y := ⟨50, [(4, _), (5, _), (6, _)], [⟨b34, 58, 2, [_, _]⟩]⟩) (Wk.as_ rfl rfl ⟨lk, lk, lk, trivial⟩) rfl ?_
      refine AD.done (by kernel_rfl) ?_
      refine CD.ret ?_
      refine ⟨.inr rfl, _, [], List.nil_sublist _, ret_three Tryz.results10 (res_tmp (Nat.le_of_ble_eq_true rfl) lk) (res_tmp (Nat.le_of_ble_eq_true rfl) lk) (res_tmp (Nat.le_of_ble_eq_true rfl) lk), ?_⟩
      rw [hres]; exact ⟨rfl, rfl⟩
    ·have hg29' := hg29; (try simp only [V.cnd, ne_eq] at hg29')
     refine sk_ ?_
     refine sk_ ?_
     refine os_ pkF_ ?_
     refine nm_ [0, 1, 32] ?_
     refine CD.condF ot (by first | rfl | assumption) ?_
     have h3 : ¬ ((kindR l ops).1 ≠ 1 ∧ (kindR l ops).1 ≠ 0) := by simp_all
     have hres : boundsR l ops = (narF l[0].n ops.length ops ([], []), 0) := by unfold boundsR; rw [if_neg h0, if_neg h1, if_neg h2, if_neg h3, List.getD_eq_getElem?_getD, List.getElem?_eq_getElem h0p]; rfl
     refine CD.skip ?_
     refine sr_ ?_
     refine OD.still (wants_plain rfl) rfl (still_bld (pl := []) (ds := [_, _]) rfl Tryz.zeroValue58 Tryz.runUnderlying58 places58_Ex8 trivial rfl rfl) ?_
     refine OD.box (ds := [_, _]) (wants_plain rfl) rfl rfl ot rfl rfl (fun b34 => ?_)
     refine OD.wk (Wk.nil2 (k := 0) (sz := 1) (sz' := 1) rfl) ?_
     refine os_ mv_ ?_
     refine OD.wk (Wk.as_ (n := 50) (l' := [(0, _), (1, _), (9, _)]) (S' := [⟨b34, 58, 2, [_, _]⟩]) rfl rfl ⟨lk, lk, lk, trivial⟩) ?_
     refine OD.nil ?_
     refine sr_ ?_
     refine os_ mv_ ?_
     refine os_ mv_ ?_
     refine OD.still (wants_plain rfl) rfl (still_r2 (mk := Op.indexAddr 30) rfl ot opd_const (by first | exact ix_list Tryz.runUnderlying30 Tryz.sizeOf33 (j := 0) rfl h0p | exact ix_row Tryz.runUnderlying30 Tryz.sizeOf33 (j := 0) rfl h0p)) ?_
     refine os_ (fa_ 0) ?_
     refine os_ ld_ ?_
     refine os_ mv_ ?_
     refine OD.call (wants_plain rfl) rfl rfl rfl Tryz.call21 (nar_vc hG l[0].n ops.length h40 ops [] [] (Nat.le_refl _) hrn hok (Nat.zero_le _) (Nat.zero_le _) b34) ⟨ot, ot, ot, trivial⟩ (perm_one (k := 0) rfl) ?_
     rintro _ _ ⟨rfl, rfl⟩
     refine OD.wk (Wk.as_ (n := 50) (l' := [(9, _)]) (S' := [⟨b34, 58, 2, [_, _]⟩]) rfl rfl ⟨lk, trivial⟩) ?_
     refine OD.nil ?_
     refine CD.seq ?_
     refine CD.draw (bks _) (by kernel_rfl) (fun _ h => h) ?_
     refine AD0.take (i := 0) rfl (by kernel_rfl) (by kernel_rfl) (by kernel_rfl) (by repeat (first | exact NP.body | apply NP.then | apply NP.cut | apply NP.inBlock | apply NP.round)) (wants_plain rfl) rfl (still_mv rfl ot) (by exact trivial) ?_
     refine AD0.take (i := 1) rfl (by kernel_rfl) (by kernel_rfl) (by kernel_rfl) (by repeat (first | exact NP.body | apply NP.then | apply NP.cut | apply NP.inBlock | apply NP.round)) (wants_plain rfl) rfl (still_r1 (mk := Op.nilCheck) rfl ot (by first | exact nc_ptr | exact nc_iptr)) (by exact trivial) ?_
     refine AD0.take (i := 2) rfl (by kernel_rfl) (by kernel_rfl) (by kernel_rfl) (by repeat (first | exact NP.body | apply NP.then | apply NP.cut | apply NP.inBlock | apply NP.round)) (wants_plain rfl) rfl (still_r1 (mk := fun y => Op.fieldAddr 58 y 0) rfl ot (by first | exact fa_ptr (off := 0) Tryz.runUnderlying58 rfl Tryz.sizeOf39 rfl | exact fa_iptr (off := 0) Tryz.runUnderlying58 rfl Tryz.sizeOf39 rfl)) (by exact trivial) ?_
     refine AD0.take (i := 3) rfl (by kernel_rfl) (by kernel_rfl) (by kernel_rfl) (by repeat (first | exact NP.body | apply NP.then | apply NP.cut | apply NP.inBlock | apply NP.round)) (wants_plain rfl) rfl (still_r1 (mk := Op.load 39) rfl ot (by first | exact ld_blk (k := 0) rfl rfl Tryz.isAgg39 rfl | exact ld_fm cC_len Tryz.isAgg39 (by first | assumption | omega) rfl | exact ld_fm0 cC_len Tryz.isAgg39 (by first | assumption | omega) rfl | exact ld_row (k := 0) cC_len rfl rfl rfl Tryz.isAgg39 (by first | assumption | omega) rfl | exact ld_row0 (k := 0) cC_len rfl rfl rfl Tryz.isAgg39 (by first | assumption | omega) rfl | exact ld_i Tryz.isAgg39 rfl)) (by first | exact trivial | exact safe_blk (k0 := 0) rfl rfl) ?_
     refine AD0.take (i := 4) rfl (by kernel_rfl) (by kernel_rfl) (by kernel_rfl) (by repeat (first | exact NP.body | apply NP.then | apply NP.cut | apply NP.inBlock | apply NP.round)) (wants_plain rfl) rfl (still_mv rfl ot) (by exact trivial) ?_
     refine AD0.take (i := 5) rfl (by kernel_rfl) (by kernel_rfl) (by kernel_rfl) (by repeat (first | exact NP.body | apply NP.then | apply NP.cut | apply NP.inBlock | apply NP.round)) (wants_plain rfl) rfl (still_r1 (mk := Op.nilCheck) rfl ot (by first | exact nc_ptr | exact nc_iptr)) (by exact trivial) ?_
     refine AD0.take (i := 6) rfl (by kernel_rfl) (by kernel_rfl) (by kernel_rfl) (by repeat (first | exact NP.body | apply NP.then | apply NP.cut | apply NP.inBlock | apply NP.round)) (wants_plain rfl) rfl (still_r1 (mk := fun y => Op.fieldAddr 58 y 1) rfl ot (by first | exact fa_ptr (off := 1) Tryz.runUnderlying58 rfl Tryz.sizeOf39 rfl | exact fa_iptr (off := 1) Tryz.runUnderlying58 rfl Tryz.sizeOf39 rfl)) (by exact trivial) ?_
     refine AD0.take (i := 7) rfl (by kernel_rfl) (by kernel_rfl) (by kernel_rfl) (by repeat (first | exact NP.body | apply NP.then | apply NP.cut | apply NP.inBlock | apply NP.round)) (wants_plain rfl) rfl (still_r1 (mk := Op.load 39) rfl ot (by first | exact ld_blk (k := 0) rfl rfl Tryz.isAgg39 rfl | exact ld_fm cC_len Tryz.isAgg39 (by first | assumption | omega) rfl | exact ld_fm0 cC_len Tryz.isAgg39 (by first | assumption | omega) rfl | exact ld_row (k := 0) cC_len rfl rfl rfl Tryz.isAgg39 (by first | assumption | omega) rfl | exact ld_row0 (k := 0) cC_len rfl rfl rfl Tryz.isAgg39 (by first | assumption | omega) rfl | exact ld_i Tryz.isAgg39 rfl)) (by first | exact trivial | exact safe_blk (k0 := 0) rfl rfl) ?_
     refine AD0.take (i := 8) rfl (by kernel_rfl) (by kernel_rfl) (by kernel_rfl) (by repeat (first | exact NP.body | apply NP.then | apply NP.cut | apply NP.inBlock | apply NP.round)) (wants_plain rfl) rfl (still_as rfl ot) (by exact trivial) ?_
     refine AD0.take (i := 9) rfl (by kernel_rfl) (by kernel_rfl) (by kernel_rfl) (by repeat (first | exact NP.body | apply NP.then | apply NP.cut | apply NP.inBlock | apply NP.round)) (wants_plain rfl) rfl (still_as rfl ot) (by exact trivial) ?_
     refine AD0.take (i := 10) rfl (by kernel_rfl) (by kernel_rfl) (by kernel_rfl) (by repeat (first | exact NP.body | apply NP.then | apply NP.cut | apply NP.inBlock | apply NP.round)) (wants_plain rfl) rfl (still_as rfl opd_const) (by exact trivial) ?_
     refine AD0.later rfl ?_
     refine AD.wk (y := ⟨50, [(4, _), (5, _), (6, _)], [⟨b34, 58, 2, [_, _]⟩]⟩) (Wk.as_ rfl rfl ⟨lk, lk, lk, trivial⟩) rfl ?_
     refine AD.done (by kernel_rfl) ?_
     refine CD.ret ?_
     refine ⟨.inr rfl, _, [], List.nil_sublist _, ret_three Tryz.results10 (res_tmp (Nat.le_of_ble_eq_true rfl) lk) (res_tmp (Nat.le_of_ble_eq_true rfl) lk) (res_tmp (Nat.le_of_ble_eq_true rfl) lk), ?_⟩
     rw [hres]; exact ⟨rfl, rfl⟩

end Go.Proofs.YtfooincnmobemaaGreatDoor.Ex

namespace Go.Proofs.YtfooincnmobemaaGreatDoor.Ex
open Go.RowKit V Pk Vl Go.Proofs.YtfooincnmobemaaGreatDoor.Nm Go.Proofs.YtfooincnmobemaaGreatDoor.Pc Go.Proofs.YtfooincnmobemaaGreatDoor.Cd
set_option linter.unusedVariables false
set_option linter.unusedSimpArgs false

open Go.Lib (compareBytes)
def idB : ByteArray := ⟨#[105, 100]⟩
def keyX (x : Int) : List UInt8 := encL [numV x]
theorem idx_0 {α : Type} {p : α → Bool} {a : α} {r : List α} (h : p a = true) : idxG p (a :: r) = 0 := by unfold idxG; simp [List.findIdx?_cons, h]
theorem idx_1 {α : Type} {p : α → Bool} {a b : α} {r : List α} (h : p a = false) (h' : p b = true) : idxG p (a :: b :: r) = 1 := by unfold idxG; simp [List.findIdx?_cons, h, h']
theorem idx_no2 {α : Type} {p : α → Bool} {a b : α} (h : p a = false) (h' : p b = false) : idxG p [a, b] = -1 := by unfold idxG; simp [List.findIdx?_cons, h, h']
theorem enc_num (x : Int) : encR [numV x] = (keyX x, 0) := by
 unfold encR
 rw [if_neg (by simp), errV_ok (fun v hv => by rw [List.mem_singleton] at hv; rw [hv]; exact ck_num x), if_neg (by simp)]
 rw [if_neg (by unfold encL encV payV; simp [numV, be8])]
 rfl
theorem key_len (x : Int) : (keyX x).length = 9 := by unfold keyX encL encV payV; simp [numV, be8]
end Go.Proofs.YtfooincnmobemaaGreatDoor.Ex

namespace Go.Proofs.YtfooincnmobemaaGreatDoor.Ex
open Go.RowKit V Pk Vl Go.Proofs.YtfooincnmobemaaGreatDoor.Nm Go.Proofs.YtfooincnmobemaaGreatDoor.Pc Go.Proofs.YtfooincnmobemaaGreatDoor.Cd
set_option linter.unusedVariables false
set_option linter.unusedSimpArgs false

variable {G : List (Nat × List Value)}
theorem ok_numV {x : Int} (h1 : 0 ≤ x) (h2 : x ≤ 9000) : (numV x).Ok := ok_int ⟨by omega, by omega⟩
def FineO (o : OpL) : Prop := o.nm.size ≤ maxLen ∧ o.v.Ok
theorem fine_nil : ∀ o ∈ ([] : List OpL), FineO o := fun o h => by cases h
theorem Bounds_at {m : Int} (hm : (3, marksC) ∈ G) (hw : (0, wordsC) ∈ G) (ht : (1, typesC) ∈ G) (hG : (2, [Value.int .i64 m]) ∈ G) (ops : List OpL) (hf : ∀ o ∈ ops, FineO o) : VP Tryz.prog G 10 [.list 2 (colsL.flatMap cC) colsL.length, .list 5 (ops.flatMap cO) ops.length] (bdD (boundsR colsL ops)) :=
 Bounds_vp hm hw ht hG colsL (by decide) cols_sz ops (fun o h => (hf o h).1) (fun o h => (hf o h).2)
theorem enc_at {m : Int} (hm : (3, marksC) ∈ G) (hw : (0, wordsC) ∈ G) (ht : (1, typesC) ∈ G) (hG : (2, [Value.int .i64 m]) ∈ G) (x : Int) (h1 : 0 ≤ x) (h2 : x ≤ 9000) : VP Tryz.prog G 12 [.list 3 ([numV x].flatMap cV) [numV x].length] (.tup [.list 1 ((keyX x).flatMap cB) (keyX x).length, .v (.int .i64 0)]) := by
 have h := enc_vp hG [numV x] (by simp [maxLen]) (fun v hv => by rw [List.mem_singleton] at hv; rw [hv]; exact ok_numV h1 h2)
 rw [enc_num] at h
 exact h

def TGM (m : Int) : List (Nat × List Value) := [(3, marksC), (0, wordsC), (1, typesC), (2, [Value.int .i64 m])]
theorem tm1 {m : Int} : (3, marksC) ∈ TGM m := List.mem_cons_self
theorem tm2 {m : Int} : (0, wordsC) ∈ TGM m := List.mem_cons_of_mem _ List.mem_cons_self
theorem tm3 {m : Int} : (1, typesC) ∈ TGM m := List.mem_cons_of_mem _ (List.mem_cons_of_mem _ List.mem_cons_self)
theorem tm4 {m : Int} : (2, [Value.int .i64 m]) ∈ TGM m := List.mem_cons_of_mem _ (List.mem_cons_of_mem _ (List.mem_cons_of_mem _ List.mem_cons_self))
theorem tgmx {w : World} {m : Int} (h1 : MarksTab w) (h2 : WordsTab w) (h3 : TypesTab w) (h4 : Tab.TabAt w 2 [Value.int .i64 m]) : ∀ g ∈ TGM m, g.2 ≠ [] ∧ TabX w g.1 g.2 := fun g hg => by
 simp only [TGM, List.mem_cons, List.not_mem_nil, or_false] at hg
 rcases hg with rfl | rfl | rfl | rfl
 ·exact ⟨by decide, .of h1 rfl⟩
 ·exact ⟨by decide, .of h2 rfl⟩
 ·exact ⟨by decide, .of h3 rfl⟩
 ·exact ⟨by simp, .of h4 rfl⟩



end Go.Proofs.YtfooincnmobemaaGreatDoor.Ex

namespace Go.Proofs.YtfooincnmobemaaGreatDoor.Ex
open Go.RowKit V Pk Vl Go.Proofs.YtfooincnmobemaaGreatDoor.Nm Go.Proofs.YtfooincnmobemaaGreatDoor.Pc Go.Proofs.YtfooincnmobemaaGreatDoor.Cd
set_option linter.unusedVariables false
set_option linter.unusedSimpArgs false

open Go.Lib (compareBytes)
def inB (k : List UInt8) (b : BdL) : Prop := compareBytes b.1 k ≤ 0 ∧ (b.2.length = 0 ∨ compareBytes k b.2 ≤ 0)
theorem low_in {k x : List UInt8} {b : BdL} (h : inB k b) (hx : compareBytes x k ≤ 0) : inB k (lowF x b) := by
 unfold lowF; split
 ·exact ⟨hx, h.2⟩
 ·exact h
theorem high_in {k x : List UInt8} {b : BdL} (h : inB k b) (hx : compareBytes k x ≤ 0) : inB k (highF x b) := by
 unfold highF; split
 ·exact ⟨h.1, .inr hx⟩
 ·exact h
section
variable {l : List ColL} {row : List Vl}
theorem fold_leaf {o : OpL} {r : List OpL} {st : List Vl} {w : Vl} (hp : popsF o.k = 0) (he : ∀ a b, evalF l row o a b = (w, 0)) : foldG noVl (evalF l row) (o :: r) st = foldG noVl (evalF l row) r (st ++ [w]) := by
 rw [cons_ok (by rw [he]), he, hp]; simp
theorem fold_op2 {o : OpL} {r : List OpL} {a b : Vl} (hp : popsF o.k = 2) (h : (foldG noVl (evalF l row) (o :: r) [a, b]).2 = 0) : (twoF o.k a b).2 = 0 ∧ foldG noVl (evalF l row) (o :: r) [a, b] = foldG noVl (evalF l row) r [(twoF o.k a b).1] := by
 have ha : argA noVl o.k [a, b] = a := by unfold argA; rw [hp]; rfl
 have hb : argB noVl o.k [a, b] = b := by unfold argB; rw [hp]; rfl
 have he : evalF l row o a b = twoF o.k a b := by unfold evalF; rw [hp]; rfl
 by_cases hz : (twoF o.k a b).2 = 0
 ·refine ⟨hz, ?_⟩
  rw [cons_ok (by rw [ha, hb, he]; exact hz), ha, hb, he, hp]; rfl
 ·rw [cons_bad (by rw [ha, hb, he]; exact hz), ha, hb, he] at h; exact absurd h hz
theorem fold_op1 {o : OpL} {r : List OpL} {a : Vl} (hp : popsF o.k = 1) (h : (foldG noVl (evalF l row) (o :: r) [a]).2 = 0) : (oneF o.k a).2 = 0 ∧ foldG noVl (evalF l row) (o :: r) [a] = foldG noVl (evalF l row) r [(oneF o.k a).1] := by
 have ha : argA noVl o.k [a] = a := by unfold argA; rw [hp]; rfl
 have he : ∀ b, evalF l row o a b = oneF o.k a := fun b => by unfold evalF; rw [hp]; rfl
 by_cases hz : (oneF o.k a).2 = 0
 ·refine ⟨hz, ?_⟩
  rw [cons_ok (by rw [ha, he]; exact hz), ha, he, hp]; rfl
 ·rw [cons_bad (by rw [ha, he]; exact hz), ha, he] at h; exact absurd h hz
theorem stk_bad_append {a b : List OpL} : ∀ {st : List Vl}, (stkG noVl (evalF l row) a st).2 ≠ 0 → (stkG noVl (evalF l row) (a ++ b) st).2 ≠ 0 := by
 induction a with
 | nil => intro st h; exact absurd rfl h
 | cons o r ih =>
  intro st h
  by_cases he : (evalF l row o (argA noVl o.k st) (argB noVl o.k st)).2 = 0
  ·rw [stk_ok he] at h; rw [List.cons_append, stk_ok he]; exact ih h
  ·rw [List.cons_append, stk_bad he]; exact he
theorem stk_bad_frame : ∀ (ops : List OpL) (s0 st : List Vl) (h' : Int), runs st.length ops = some h' → (stkG noVl (evalF l row) ops st).2 ≠ 0 → (stkG noVl (evalF l row) ops (s0 ++ st)).2 ≠ 0
 | [], s0, st, h', hr, h => absurd rfl h
 | o :: r, s0, st, h', hr, h0 => by
  rw [runs] at hr
  split at hr
  ·rename_i he
   have hp := (err_pops he).1
   obtain ⟨a1, a2⟩ := arg_frame (z := noVl) o.k s0 st hp
   by_cases hz : (evalF l row o (argA noVl o.k st) (argB noVl o.k st)).2 = 0
   ·rw [stk_ok hz] at h0
    rw [stk_ok (by rw [a1, a2]; exact hz), a1, a2, take_frame o.k s0 st hp, List.append_assoc]
    exact stk_bad_frame r s0 _ h' (by rw [next_len o.k st _ hp]; exact hr) h0
   ·rw [stk_bad (by rw [a1, a2]; exact hz), a1, a2]; exact hz
  ·cases hr
theorem fold_zero {x : List OpL} (h : (stkG noVl (evalF l row) x []).2 = 0) : (foldV l row x).2 = 0 := by unfold foldV; rw [fold_stk, if_neg (by simp [h])]
theorem fold_and {x y : List OpL} {o : OpL} (hx : runs 0 x = some 1) (hy : runs 0 y = some 1) (hp : popsF o.k = 2) (h : (foldV l row ((x ++ y) ++ [o])).2 = 0) : (foldV l row x).2 = 0 ∧ (foldV l row y).2 = 0 ∧ (twoF o.k (foldV l row x).1 (foldV l row y).1).2 = 0 ∧ foldV l row ((x ++ y) ++ [o]) = twoF o.k (foldV l row x).1 (foldV l row y).1 := by
 have hs : (stkG noVl (evalF l row) ((x ++ y) ++ [o]) []).2 = 0 := by
  by_cases hz : (stkG noVl (evalF l row) ((x ++ y) ++ [o]) []).2 = 0
  ·exact hz
  ·unfold foldV at h; rw [fold_stk, if_pos hz] at h; exact absurd h hz
 have h1 : (stkG noVl (evalF l row) x []).2 = 0 := Classical.byContradiction fun c => by rw [List.append_assoc] at hs; exact stk_bad_append c hs
 have f1 := fold_zero h1
 have e1 := stk_one hx f1 []
 have h2 : (stkG noVl (evalF l row) y []).2 = 0 := Classical.byContradiction fun c => by
  rw [List.append_assoc, stk_append _ _ _ h1, e1] at hs
  have := stk_bad_frame y [(foldV l row x).1] [] 1 hy c
  rw [List.append_nil] at this
  exact stk_bad_append (b := [o]) this hs
 have f2 := fold_zero h2
 have e2 := stk_one hy f2 [(foldV l row x).1]
 have e3 : stkG noVl (evalF l row) (x ++ y) [] = ([(foldV l row x).1, (foldV l row y).1], 0) := by rw [stk_append _ _ _ (by rw [e1]), e1]; exact e2
 have e4 : foldV l row ((x ++ y) ++ [o]) = foldG noVl (evalF l row) [o] [(foldV l row x).1, (foldV l row y).1] := by
  unfold foldV
  rw [fold_stk, stk_append _ _ _ (by rw [e3]), e3, ← fold_stk]
  rfl
 rw [e4] at h ⊢
 obtain ⟨q1, q2⟩ := fold_op2 hp h
 refine ⟨f1, f2, q1, ?_⟩
 rw [q2]
 show ((twoF o.k _ _).1, (0 : Int)) = _
 rw [← q1]
end
theorem and_true {a b : Vl} (h0 : (twoF 3 a b).2 = 0) (h1 : (twoF 3 a b).1.k = 1) (h2 : (twoF 3 a b).1.n = 1) : (a.k = 1 ∧ a.n = 1) ∧ b.k = 1 ∧ b.n = 1 := by
 unfold twoF at h0 h1 h2
 split at h0
 ·rename_i c; exact absurd h0 c
 ·rename_i c
  rw [if_neg c, if_pos rfl] at h1 h2
  rw [if_pos rfl] at h0
  have hb : checkV a = 0 ∧ checkV b = 0 := by
   unfold bothV at c
   split at c
   ·rename_i c1; exact absurd c1 c
   ·rename_i c1; exact ⟨Classical.not_not.1 c1, Classical.not_not.1 c⟩
  unfold logicF at h0 h1 h2
  split at h0
  ·cases h0
  ·rename_i c1
   rw [if_neg c1] at h1 h2
   split at h1
   ·rename_i c2; rw [if_pos c2] at h2; simp only at h2; omega
   ·rename_i c2
    rw [if_neg c2] at h2
    split at h1
    ·rename_i c3; rw [if_pos c3] at h2; simp only at h2; omega
    ·rename_i c3
     rw [if_neg c3] at h2
     split at h1
     ·exact absurd h1 (by decide)
     ·rename_i c4
      rw [if_neg c4] at h2
      simp only at h1 h2
      have hbk : b.k = 1 := by omega
      have := check_bool hb.2 hbk
      exact ⟨⟨h1, h2⟩, hbk, by omega⟩
theorem cmp_true {k : Int} {a b : Vl} (hk : k = 6 ∨ k = 7) (h0 : (twoF k a b).2 = 0) (ha : a.k ≠ 0) (hb : b.k ≠ 0) : checkV a = 0 ∧ checkV b = 0 ∧ a.k = b.k ∧ (twoF k a b).1 = truthV ((cmpV a b == 0 && k == 6) || (decide (cmpV a b < 0) && k == 7)) := by
 unfold twoF at h0 ⊢
 split at h0
 ·rename_i c; exact absurd h0 c
 ·rename_i c
  have hcc : checkV a = 0 ∧ checkV b = 0 := by
   unfold bothV at c
   split at c
   ·rename_i c1; exact absurd c1 c
   ·rename_i c1; exact ⟨Classical.not_not.1 c1, Classical.not_not.1 c⟩
  have hn : ¬ nullF a b = true := by unfold nullF; simp [ha, hb]
  rw [if_neg c]
  simp only [show ¬ k = 3 by omega, show ¬ k = 4 by omega, hk, hn, if_false, if_true] at h0
  rw [if_neg (show ¬ k = 3 by omega), if_neg (show ¬ k = 4 by omega), if_pos hk, if_neg hn]
  by_cases hab : a.k = b.k
  ·exact ⟨hcc.1, hcc.2, hab, by rw [if_neg (by simpa using hab)]⟩
  ·rw [if_pos hab] at h0; exact absurd h0 (by decide)
theorem truth_one {b : Bool} (h : (truthV b).n = 1) : b = true := by
 cases b
 ·cases h
 ·rfl
theorem truth_k (b : Bool) : (truthV b).k = 1 := by cases b <;> rfl
theorem not_true {a : Vl} (h0 : (oneF 5 a).2 = 0) (hk : a.k = 1) (h : (oneF 5 a).1.n = 1) : a.n = 0 := by
 unfold oneF at h0 h
 split at h0
 ·rename_i c; exact absurd h0 c
 ·rename_i c
  rw [if_neg c, if_neg (by decide), if_pos rfl, if_neg (by omega), if_pos hk] at h
  have := truth_one h
  simpa using this
theorem enc_int {v : Vl} (h : checkV v = 0) (hk : v.k = 2) : encR [v] = (encL [v], 0) := by
 unfold encR
 rw [if_neg (by simp), errV_ok (fun x hx => by rw [List.mem_singleton] at hx; rw [hx]; exact h), if_neg (by simp), if_neg]
 show ¬ (encL [v]).length > 100
 unfold encL encV payV
 simp [hk, be8]
theorem key_neg {a b : Vl} (ha : checkV a = 0) (oa : a.Ok) (hb : checkV b = 0) (ob : b.Ok) (h : cmpV a b < 0) : compareBytes (encL [a]) (encL [b]) = -1 := by
 have := key_cmp ha oa hb ob [] [] (by omega)
 have h3 := cmpV_three a b
 rw [List.append_nil, List.append_nil] at this
 unfold encL
 rw [List.flatMap_singleton, List.flatMap_singleton, this]; omega
theorem key_le {a b : Vl} (ha : checkV a = 0) (oa : a.Ok) (hb : checkV b = 0) (ob : b.Ok) (h : cmpV a b ≤ 0) : compareBytes (encL [a]) (encL [b]) ≤ 0 := by
 by_cases hz : cmpV a b = 0
 ·rw [cmpV_zero hz, cb_self]; decide
 ·rw [key_neg ha oa hb ob (by omega)]; decide
/-- A comparison of the key with a value that is true, or not: the key lies within the bounds that it narrows. -/
theorem cut_in {rv lv : Vl} (hr : checkV rv = 0) (or : rv.Ok) (hl : checkV lv = 0) (ol : lv.Ok) {kc : Int} {eq not : Bool} {b : BdL} (hb : inB (encL [rv]) b) (he : eq = true → rv = lv) (hlow : eq = false → ((kc == 0) == not) = true → cmpV lv rv ≤ 0) (hhigh : eq = false → ((kc == 0) != not) = true → cmpV rv lv ≤ 0) : inB (encL [rv]) (cutB kc eq not (encL [lv]) b) := by
  unfold cutB
  have hlo : (eq || (kc == 0) == not) = true → inB (encL [rv]) (lowF (encL [lv]) b) := fun h => low_in hb (by
    cases eq with
    | true => rw [he rfl, cb_self]; decide
    | false => exact key_le hl ol hr or (hlow rfl (by simpa using h)))
  have hhi : (eq || (kc == 0) != not) = true → ∀ {c}, inB (encL [rv]) c → inB (encL [rv]) (highF (encL [lv]) c) := fun h c hc => high_in hc (by
    cases eq with
    | true => rw [he rfl, cb_self]; decide
    | false => exact key_le hr or hl ol (hhigh rfl (by simpa using h)))
  cases e1 : (eq || (kc == 0) != not) <;> cases e2 : (eq || (kc == 0) == not)
  · exact hb
  · exact hlo e2
  · exact hhi e1 hb
  · exact hhi e1 (hlo e2)
theorem idx_hit2 {p : OpL → Bool} {a b : OpL} (h : ¬ idxG p [a, b] < 0) : (idxG p [a, b] = 0 ∧ p a = true) ∨ (idxG p [a, b] = 1 ∧ p a = false ∧ p b = true) := by
 cases ha : p a with
 | true => exact .inl ⟨idx_0 ha, rfl⟩
 | false =>
  cases hb : p b with
  | true => exact .inr ⟨idx_1 ha hb, rfl, rfl⟩
  | false => exact absurd (by rw [idx_no2 ha hb]; decide) h
theorem nm_eq {a b : ByteArray} (h : (a.toList == b.toList) = true) : a = b := by
 rw [beq_iff_eq, ByteArray.toList_eq, ByteArray.toList_eq] at h
 exact ByteArray.ext (Array.ext' h)
section
variable {a : Int} {rest : List Vl}
theorem ev_id {o : OpL} (h : keyCol idB o = true) (x y : Vl) : popsF o.k = 0 ∧ evalF colsL (numV a :: rest) o x y = (numV a, 0) := by
 unfold keyCol at h
 rw [Bool.and_eq_true] at h
 have hk : o.k = 2 := by simpa using h.1
 have hn : o.nm = idB := nm_eq h.2
 have hp : popsF o.k = 0 := by rw [hk]; rfl
 refine ⟨hp, ?_⟩
 unfold evalF
 rw [if_neg (by rw [hp]; decide), if_neg (by rw [hp]; decide), if_pos hk, hn, show colAt colsL idB = 0 from at_id]; rfl
theorem ev_lit {o : OpL} {row : List Vl} (h : litNN o = true) (x y : Vl) : popsF o.k = 0 ∧ o.v.k ≠ 0 ∧ evalF colsL row o x y = (o.v, 0) := by
 unfold litNN at h
 rw [Bool.and_eq_true] at h
 have hk : o.k = 1 := by simpa using h.1
 have hp : popsF o.k = 0 := by rw [hk]; rfl
 refine ⟨hp, by simpa using h.2, ?_⟩
 unfold evalF
 rw [if_neg (by rw [hp]; decide), if_neg (by rw [hp]; decide), if_neg (by omega)]
theorem apart {o : OpL} (h : keyCol idB o = true) : litNN o = false := by
 unfold keyCol at h; unfold litNN
 rw [Bool.and_eq_true] at h
 have hk : o.k = 2 := by simpa using h.1
 rw [hk]; rfl
/-- What is no AND. -/
theorem leaf_in {ops : List OpL} {not : Bool} {v : Vl} {tl : List OpL} {b : BdL} (oa : (numV a).Ok) (hok : ∀ o ∈ ops, o.v.Ok) (htl : tl = if not = true then [bareOp 5] else []) (hf : foldG noVl (evalF colsL (numV a :: rest)) (ops ++ tl) [] = (v, 0)) (hv : v.k = 1 ∧ v.n = 1) (hb : inB (encL [numV a]) b) : inB (encL [numV a]) (leafB idB ops not b) := by
  unfold leafB
  split
  · exact hb
  · rename_i c1
    split
    · exact hb
    · rename_i c2
      have h3 : ops.length = 3 := by omega
      match ops, h3 with
      | [o0, o1, o2], _ =>
        simp only [List.take_succ_cons, List.take_zero, List.length_cons, List.length_nil, Nat.reduceAdd, Nat.reduceSub, List.cons_append, List.nil_append] at c1 c2 hf ⊢
        have hk2 : opK [o0, o1, o2] 2 = o2.k := rfl
        rw [hk2] at c1 ⊢
        have h67 : o2.k = 6 ∨ o2.k = 7 := by omega
        have hn7 : not = true → o2.k = 7 := fun h => by rcases h67 with h6 | h7; exact absurd (.inr (.inl ⟨h, by omega⟩)) c1; exact h7
        have hp2 : popsF o2.k = 2 := by rcases h67 with h | h <;> rw [h] <;> rfl
        obtain ⟨c3, c4⟩ := not_or.1 c2
        have main : ∀ x y : Vl, x.k ≠ 0 → y.k ≠ 0 → foldG noVl (evalF colsL (numV a :: rest)) (o0 :: o1 :: o2 :: tl) [] = foldG noVl (evalF colsL (numV a :: rest)) (o2 :: tl) [x, y] → checkV x = 0 ∧ checkV y = 0 ∧ x.k = y.k ∧ (o2.k = 6 → cmpV x y = 0) ∧ (o2.k = 7 → not = false → cmpV x y < 0) ∧ (not = true → 0 ≤ cmpV x y) := fun x y hx hy he => by
          rw [he] at hf
          obtain ⟨q1, q2⟩ := fold_op2 hp2 (by rw [hf])
          obtain ⟨r1, r2, r3, r4⟩ := cmp_true h67 q1 hx hy
          rw [q2, r4, htl] at hf
          refine ⟨r1, r2, r3, ?_⟩
          cases hnt : not with
          | false =>
            rw [hnt, if_neg (by simp)] at hf
            have hv2 : truthV ((cmpV x y == 0 && o2.k == 6) || (decide (cmpV x y < 0) && o2.k == 7)) = v := by injection hf
            rw [← hv2] at hv
            have := truth_one hv.2
            refine ⟨fun h => ?_, fun h _ => ?_, fun h => (by cases h)⟩
            · rw [h] at this; simpa using this
            · rw [h] at this; simpa using this
          | true =>
            rw [hnt, if_pos rfl] at hf
            obtain ⟨s1, s2⟩ := fold_op1 (o := bareOp 5) (by rfl) (by rw [hf])
            rw [s2] at hf
            have hv2 : (oneF 5 (truthV ((cmpV x y == 0 && o2.k == 6) || (decide (cmpV x y < 0) && o2.k == 7)))).1 = v := by injection hf
            rw [← hv2] at hv
            have := not_true s1 (truth_k _) hv.2
            have h7 := hn7 hnt
            rw [h7] at this
            refine ⟨fun h => (by omega), fun _ h => (by cases h), fun _ => ?_⟩
            by_cases hlt : cmpV x y < 0
            · simp [hlt, truthV] at this
            · omega
        rcases idx_hit2 c3 with ⟨k1, k2⟩ | ⟨k1, k2, k3⟩
        · rcases idx_hit2 c4 with ⟨l1, l2⟩ | ⟨l1, l2, l3⟩
          · rw [apart k2] at l2; cases l2
          · have e0 := fun x y => ev_id (a := a) (rest := rest) k2 x y
            have e1 := fun x y => ev_lit (row := numV a :: rest) l3 x y
            obtain ⟨m1, m2, m3, m4, m5, m6⟩ := main (numV a) o1.v (show (2 : Int) ≠ 0 by decide) (e1 noVl noVl).2.1 (by rw [fold_leaf (e0 noVl noVl).1 fun x y => (e0 x y).2, fold_leaf (e1 noVl noVl).1 fun x y => (e1 x y).2.2]; rfl)
            have hlk : litK [o0, o1, o2] = encL [o1.v] := by unfold litK; rw [show idxG litNN ([o0, o1, o2].take 2) = 1 from l1]; exact congrArg Prod.fst (enc_int m2 m3.symm)
            rw [k1, hlk]
            refine cut_in m1 oa m2 (hok o1 (by simp)) hb (fun h => cmpV_zero (m4 (by simpa using h))) (fun h h' => ?_) (fun h h' => ?_)
            · have hnt : not = true := by simpa using h'
              have := m6 hnt; rw [cmpV_anti]; omega
            · have hnt : not = false := by simpa using h'
              have h7 : o2.k = 7 := by rcases h67 with h6 | h7; rw [h6] at h; cases h; exact h7
              have := m5 h7 hnt; omega
        · rcases idx_hit2 c4 with ⟨l1, l2⟩ | ⟨l1, l2, l3⟩
          · have e1 := fun x y => ev_id (a := a) (rest := rest) k3 x y
            have e0 := fun x y => ev_lit (row := numV a :: rest) l2 x y
            obtain ⟨m1, m2, m3, m4, m5, m6⟩ := main o0.v (numV a) (e0 noVl noVl).2.1 (show (2 : Int) ≠ 0 by decide) (by rw [fold_leaf (e0 noVl noVl).1 fun x y => (e0 x y).2.2, fold_leaf (e1 noVl noVl).1 fun x y => (e1 x y).2]; rfl)
            have hlk : litK [o0, o1, o2] = encL [o0.v] := by unfold litK; rw [show idxG litNN ([o0, o1, o2].take 2) = 0 from l1]; exact congrArg Prod.fst (enc_int m1 m3)
            rw [k1, hlk]
            refine cut_in m2 oa m1 (hok o0 (by simp)) hb (fun h => (cmpV_zero (m4 (by simpa using h))).symm) (fun h h' => ?_) (fun h h' => ?_)
            · have hnt : not = false := by simpa using h'
              have h7 : o2.k = 7 := by rcases h67 with h6 | h7; rw [h6] at h; cases h; exact h7
              have := m5 h7 hnt; omega
            · have hnt : not = true := by simpa using h'
              have := m6 hnt; rw [cmpV_anti]; omega
          · rw [apart k3] at l3; cases l3
theorem split_last {ops : List OpL} (h : 0 < ops.length) : ops = ops.take (ops.length - 1) ++ [ops[ops.length - 1]] := by
 rw [← List.take_succ_eq_append_getElem (by omega), show ops.length - 1 + 1 = ops.length by omega, List.take_length]
theorem eval_k {l : List ColL} {row : List Vl} {o o' : OpL} (h : o.k = o'.k) (hp : popsF o.k = 1) (x y : Vl) : evalF l row o x y = evalF l row o' x y := by unfold evalF; rw [← h, if_pos hp, if_pos hp]
theorem fold_swap {l : List ColL} {row : List Vl} {o o' : OpL} (h : o.k = o'.k) (hp : popsF o.k = 1) (x : List OpL) : foldG noVl (evalF l row) (x ++ [o]) [] = foldG noVl (evalF l row) (x ++ [o']) [] := by
 have : ∀ (x : List OpL) (st : List Vl), foldG noVl (evalF l row) (x ++ [o]) st = foldG noVl (evalF l row) (x ++ [o']) st := by
  intro x
  induction x with
  | nil =>
   intro st
   have he : evalF l row o = evalF l row o' := by funext x y; exact eval_k h hp x y
   show foldG _ _ (o :: []) st = foldG _ _ (o' :: []) st
   unfold foldG
   rw [he, h]
  | cons c r ih => intro st; rw [List.cons_append, List.cons_append, foldG, foldG, ih]
 exact this x []
/-- A row of which an expression is true lies within its bounds. -/
theorem nar_in (oa : (numV a).Ok) : ∀ (f : Nat) (ops : List OpL) (v : Vl) (b : BdL), ops.length ≤ f → runs 0 ops = some 1 → (∀ o ∈ ops, o.v.Ok) → foldV colsL (numV a :: rest) ops = (v, 0) → v.k = 1 ∧ v.n = 1 → inB (encL [numV a]) b → inB (encL [numV a]) (narF idB f ops b)
  | 0, ops, v, b, hl, hr, _, _, _, _ => by have := runs_pos hr; omega
  | f + 1, ops, v, b, hl, hr, hok, hv, h1, hb => by
    have hp := runs_pos hr
    rw [narF]
    split
    · rename_i hk
      obtain ⟨q1, q2, q3, q4⟩ := and_mid hr hk
      obtain ⟨hn, _⟩ := runs_end hr
      have hk3 : ops[ops.length - 1].k = 3 := by rw [← opK_at hn]; exact hk
      have hsp : ops = (ops.take (begF ops (ops.length - 1) 1) ++ (ops.take (ops.length - 1)).drop (begF ops (ops.length - 1) 1)) ++ [ops[ops.length - 1]] := by
        conv => lhs; rw [split_last hp]
        congr 1
        conv => lhs; rw [← List.take_append_drop (begF ops (ops.length - 1) 1) (ops.take (ops.length - 1))]
        congr 1
        rw [List.take_take]; congr 1; omega
      have hv' := hv
      rw [hsp] at hv'
      obtain ⟨f1, f2, f3, f4⟩ := fold_and q2 q3 (by rw [hk3]; rfl) (by rw [hv'])
      rw [hv', hk3] at f4
      rw [hk3] at f3
      obtain ⟨t1, t2⟩ := and_true f3 (by rw [← f4]; exact h1.1) (by rw [← f4]; exact h1.2)
      refine nar_in oa f _ _ _ (by rw [List.length_drop, List.length_take]; omega) q3 (fun o ho => hok o (List.mem_of_mem_take (List.mem_of_mem_drop ho))) (Prod.ext rfl f2) t2 ?_
      exact nar_in oa f _ _ _ (by rw [List.length_take]; omega) q2 (fun o ho => hok o (List.mem_of_mem_take ho)) (Prod.ext rfl f1) t1 hb
    · split
      · rename_i hk hk5
        obtain ⟨hn, _⟩ := runs_end hr
        have hk5' : ops[ops.length - 1].k = 5 := by rw [← opK_at hn]; exact hk5
        refine leaf_in (rest := rest) (tl := [bareOp 5]) oa (fun o ho => hok o (List.mem_of_mem_take ho)) rfl ?_ h1 hb
        rw [← fold_swap (o := ops[ops.length - 1]) (by rw [hk5']; rfl) (by rw [hk5']; rfl), ← split_last hp]
        exact hv
      · exact leaf_in (rest := rest) (tl := []) oa hok rfl (by rw [List.append_nil]; exact hv) h1 hb
end

end Go.Proofs.YtfooincnmobemaaGreatDoor.Ex

namespace Go.Proofs.YtfooincnmobemaaGreatDoor.V
open Go.RowKit
set_option linter.unusedVariables false
set_option linter.unusedSimpArgs false

variable {P : Program} {C : Ctx} {G : List (Nat × List Value)} {Q : Exit → St → Prop} {x : St} {ops : Array Oper} {l : List Oper} {o : Oper} {S1 T : List Nat} {fuel i : Nat} {ld : Array Bool}

/-- A contract for arguments that read one way holds where they read another. -/
theorem VC.args {f : FuncId} {cs bs : List D} {S : List Blk} {post : D → List Blk → Prop} (h : VC P G f cs S post) (hl : bs.length = cs.length) (hr : ∀ (w : World) (L : Nat → Prop) (i : Nat) (h1 : i < cs.length) (h2 : i < bs.length) (v : Value), Rep w L bs[i] v → Rep w L cs[i] v) : VC P G f bs S post := fun X w vs hp => by
  refine h X w vs ⟨hp.ex, hp.tab, hp.own, ?_, fun i h1 h2 => ?_⟩
  · rw [hp.args.1, hl]
  · exact hr w _ i h1 (by omega) _ (hp.args.2 i (by omega) h2)
/-- .. the nil slice is an empty list. -/
theorem VC.nil2 {f : FuncId} {a : D} {sz : Nat} {S : List Blk} {post : D → List Blk → Prop} (h : VC P G f [a, .list sz [] 0] S post) : VC P G f [a, .v (.slice none 0 0)] S post := VC.args h rfl fun w L i h1 h2 v hv => by
  match i, h1, h2, hv with
  | 0, _, _, hv => exact hv
  | 1, _, _, hv => exact Rep.ofNil sz hv
end Go.Proofs.YtfooincnmobemaaGreatDoor.V

namespace Go.Proofs.YtfooincnmobemaaGreatDoor.Ex
open Go.RowKit V Pk Vl Go.Proofs.YtfooincnmobemaaGreatDoor.Nm Go.Proofs.YtfooincnmobemaaGreatDoor.Pc Go.Proofs.YtfooincnmobemaaGreatDoor.Cd
set_option linter.unusedVariables false
set_option linter.unusedSimpArgs false

open Go.Lib (compareBytes)
theorem bounds_nil : boundsR colsL [] = (([], []), 0) := by unfold boundsR; rw [if_neg (by simp [cols_ok]), if_pos (by rfl)]
theorem bounds_err {ops : List OpL} (hl : 1 ≤ ops.length) (h : (kindR colsL ops).2 = 0 ∨ (kindR colsL ops).2 = 4) : (boundsR colsL ops).2 = 0 ∨ (boundsR colsL ops).2 = 4 := by
 unfold boundsR
 rw [if_neg (by simp [cols_ok]), if_neg (by omega)]
 split
 ·rename_i h1; rcases h with h | h
  ·exact absurd h h1
  ·exact .inr h
 ·split
  ·exact .inr rfl
  ·exact .inl rfl
theorem bounds_hold (a b : Int) (s : ByteArray) (c : Int) (t : Tw) (h1 : (boundsR colsL (opsAt 3 t)).2 = 0) (h2 : (evalR colsL (rowL a b s c) (opsAt 3 t)).2 = 0) (h3 : (evalR colsL (rowL a b s c) (opsAt 3 t)).1.k = 1) (h4 : (evalR colsL (rowL a b s c) (opsAt 3 t)).1.n = 1) : inB (keyX (pickedF a 12)) (boundsR colsL (opsAt 3 t)).1 := by
 have f1 := fit_ops a b s c (good_ops 3 t) (whole_ops t)
 obtain ⟨hk, e1⟩ := eval_good f1 h2
 have hp := ops_short t
 have hn : boundsR colsL (opsAt 3 t) = (narF idB (opsAt 3 t).length (opsAt 3 t) ([], []), 0) := by
  unfold boundsR at h1 ⊢
  rw [if_neg (by simp [cols_ok]), if_neg (by omega), if_neg (by simp [hk])] at h1 ⊢
  by_cases hc : (kindR colsL (opsAt 3 t)).1 ≠ 1 ∧ (kindR colsL (opsAt 3 t)).1 ≠ 0
  ·rw [if_pos hc] at h1; exact absurd h1 (by decide)
  ·rw [if_neg hc]; rfl
 rw [hn]
 have hb := pickedF_bd a (show (1 : Int) ≤ 12 by decide)
 rw [e1] at h2 h3 h4
 exact nar_in (rest := [numV (pickedF b 9), txtV (wordF (cutF s 2)), truthF c]) (ok_numV hb.1 (by omega)) _ (opsAt 3 t) (foldV colsL (rowL a b s c) (opsAt 3 t)).1 ([], []) (Nat.le_refl _) (ops_runs 3 t 0 (Int.le_refl _)) (fun o ho => (good_ops 3 t o ho).ok) (Prod.ext rfl h2) ⟨h3, h4⟩ ⟨(by show compareBytes [] (encL [numV (pickedF a 12)]) ≤ 0; cases encL [numV (pickedF a 12)] <;> simp [compareBytes]), .inl rfl⟩
theorem toL (l : List UInt8) : (⟨l.toArray⟩ : ByteArray).toList = l := by rw [ByteArray.toList_eq]
theorem low_le {k lo : List UInt8} (h : compareBytes lo k ≤ 0) : Op.bytesLess (⟨k.toArray⟩ : ByteArray).toList (⟨lo.toArray⟩ : ByteArray).toList = false := by
 rw [toL, toL, less_cb]
 have := cb_anti lo k
 exact decide_eq_false (by omega)
theorem high_le {k hi : List UInt8} (h : compareBytes k hi ≤ 0) : (Op.bytesLess (⟨k.toArray⟩ : ByteArray).toList (⟨hi.toArray⟩ : ByteArray).toList || (⟨k.toArray⟩ : ByteArray).toList == (⟨hi.toArray⟩ : ByteArray).toList) = true := by
 rw [toL, toL, less_cb]
 rcases cb_three k hi with h1 | ⟨h1, rfl⟩ | h1
 ·rw [h1]; rfl
 ·simp
 ·omega
variable {G : List (Nat × List Value)}

theorem places26_Exe : ∀ w, ((#[{ name := "Kind", type := 3, offset := 0, embedded := false, tag := "", pkgPath := "", byteOffset := 0 }, { name := "Int", type := 3, offset := 1, embedded := false, tag := "", pkgPath := "", byteOffset := 8 }, { name := "Text", type := 9, offset := 2, embedded := false, tag := "", pkgPath := "", byteOffset := 16 }] : Array Field).mapM fun f => do pure (f.offset, ← sizeOf f.type) : Sem (Array (Nat × Nat))).run Tryz.prog w = .ok #[(0, 1), (1, 1), (2, 1)] w := fun w => by simp [Tryz.sizeOf3, Tryz.sizeOf9]

set_option maxHeartbeats 4000000 in
set_option maxRecDepth 100000 in
theorem hold_vp {m : Int} (hm : (3, marksC) ∈ G) (hw : (0, wordsC) ∈ G) (ht : (1, typesC) ∈ G) (hG : (2, [Value.int .i64 m]) ∈ G) (t : Tw) (htk : t.Ok) (a : Int) (a1 : -9223372036854775808 ≤ a) (a2 : a ≤ 9223372036854775807) (b : Int) (b1 : -9223372036854775808 ≤ b) (b2 : b ≤ 9223372036854775807) (s : ByteArray) (hs : s.size ≤ maxLen) (c : Int) (c1 : -9223372036854775808 ≤ c) (c2 : c ≤ 9223372036854775807) : VP Tryz.prog G 4 [.agg t.cs, .v (.int .i64 a), .v (.int .i64 b), .v (.string s), .v (.int .i64 c)] (.v (.bool true)) := by
 refine VC.body Tryz.func4 rfl Tryz.ntmps4 (Nat.le_of_ble_eq_true rfl) fun X0 w0 S00 => ?_
 have hxb := pickedF_bd a (show (1 : Int) ≤ 12 by decide)
 have hsh := ops_short t
 have hfit := fit_ops a b s c (good_ops 3 t) (whole_ops t)
 have hbe := bounds_err hsh.1 hfit.ke
 have hho := bounds_hold a b s c t
 have hbv := Bounds_at hm hw ht hG (opsAt 3 t) (fun o ho => ⟨(good_ops 3 t o ho).nm, (good_ops 3 t o ho).ok⟩)
 have hev := Eval_at hm hw ht a b s c (opsAt 3 t) (good_ops 3 t)
 have hcv := enc_at hm hw ht hG (pickedF a 12) hxb.1 (by omega)
 have hbn := Bounds_at hm hw ht hG [] fine_nil
 rw [bounds_nil] at hbn
 have hkl := key_len (pickedF a 12)
 obtain ⟨tk, tn, ts, tts⟩ := t
 have hO := Ops_vp (G := G) _ htk
 generalize ht0 : (Tw.mk tk tn ts tts) = t at *
 rw [← ht0] at hO
 unfold Tw.cs at hO
 rw [ht0] at hO
 rw [← ht0]
 unfold Tw.cs
 generalize evalR colsL (rowL a b s c) (opsAt 3 t) = E at *
 generalize boundsR colsL (opsAt 3 t) = B at *
 obtain ⟨v, f⟩ := E
 obtain ⟨⟨lo, hi⟩, e⟩ := B
 unfold bdD bytesL at hbv hbn
 unfold vlD at hev
 dsimp only at *
 unfold cV at hev
 refine sr_ ?_
 refine OD.box (ds := [_, _, _, _]) (wants_plain rfl) rfl rfl ot rfl rfl (fun b5 => ?_)
 refine os_ mv_ ?_
 refine OD.wk (Wk.as_ (n := 113) (l' := [(1, _), (2, _), (3, _), (4, _), (5, _)]) (S' := [⟨b5, 45, 4, [_, _, _, _]⟩]) rfl rfl ⟨lk, lk, lk, lk, lk, trivial⟩) ?_
 refine OD.nil ?_
 refine sr_ ?_
 refine os_ mv_ ?_
 refine os_ mv_ ?_
 refine os_ mv_ ?_
 refine os_ mv_ ?_
 refine OD.callP (wants_plain rfl) rfl rfl rfl Tryz.call6 (rowOf_vp a a1 a2 b b1 b2 s hs c c1 c2) ⟨ot, ot, ot, ot, trivial⟩ ?_
 refine os_ mv_ ?_
 refine OD.wk (Wk.as_ (n := 113) (l' := [(5, _), (11, _)]) (S' := [⟨b5, 45, 4, [_, _, _, _]⟩]) rfl rfl ⟨lk, lk, trivial⟩) ?_
 refine OD.nil ?_
 refine sr_ ?_
 refine os_ (lab_ 0 [_, _, _, _]) ?_
 refine OD.callP (wants_plain rfl) rfl rfl rfl Tryz.call11 (hO) ⟨ot, trivial⟩ ?_
 refine os_ mv_ ?_
 refine OD.wk (Wk.as_ (n := 113) (l' := [(11, _), (12, _)]) (S' := [⟨b5, 45, 4, [_, _, _, _]⟩]) rfl rfl ⟨lk, lk, trivial⟩) ?_
 refine OD.nil ?_
 refine sr_ ?_
 refine OD.callP (wants_plain rfl) rfl rfl rfl Tryz.call8 (colsOf_vp) trivial ?_
 refine os_ mv_ ?_
 refine OD.callP (wants_plain rfl) rfl rfl rfl Tryz.call10 (hbv) ⟨ot, ot, trivial⟩ ?_
 refine os_ mv_ ?_
 refine os_ ex_ ?_
 refine os_ ex_ ?_
 refine os_ ex_ ?_
 refine os_ mv_ ?_
 refine os_ mv_ ?_
 refine os_ mv_ ?_
 refine OD.wk (Wk.as_ (n := 113) (l' := [(11, _), (12, _), (13, _), (14, _), (15, _)]) (S' := [⟨b5, 45, 4, [_, _, _, _]⟩]) rfl rfl ⟨lk, lk, lk, lk, lk, trivial⟩) ?_
 refine OD.nil ?_
 refine sr_ ?_
 refine OD.callP (wants_plain rfl) rfl rfl rfl Tryz.call8 (colsOf_vp) trivial ?_
 refine os_ mv_ ?_
 refine os_ mv_ ?_
 refine OD.callP (wants_plain rfl) rfl rfl rfl Tryz.call7 (hev) ⟨ot, ot, ot, trivial⟩ ?_
 refine os_ mv_ ?_
 refine os_ ex_ ?_
 refine os_ ex_ ?_
 refine OD.alloc (ds := [_, _, _]) (wants_plain rfl) rfl rfl Tryz.zeroValue26 rfl (fun b16 => ?_)
 refine OD.store (k := 0) (cs' := [_, _, _]) (wants_plain rfl) rfl rfl ot rfl rfl ot rfl rfl Tryz.sizeOf26 rfl rfl rfl ?_
 refine os_ mv_ ?_
 refine OD.wk (Wk.as_ (n := 113) (l' := [(11, _), (13, _), (14, _), (15, _), (16, _), (17, _)]) (S' := [⟨b16, 26, 3, [_, _, _]⟩, ⟨b5, 45, 4, [_, _, _, _]⟩]) rfl rfl ⟨lk, lk, lk, lk, lk, lk, trivial⟩) ?_
 refine OD.nil ?_
 refine sr_ ?_
 refine os_ mv_ ?_
 refine OD.still (wants_plain rfl) rfl (still_rs (l := 0) (h := 1) rfl ot trivial ⟨_, opd_const⟩ (sl_head cV_len (fun h => by cases h) Tryz.runUnderlying23 Tryz.sizeOf26 (by rw [rowL_len]; decide))) ?_
 refine OD.callP (wants_plain rfl) rfl rfl rfl Tryz.call12 (hcv) ⟨ot, trivial⟩ ?_
 refine os_ mv_ ?_
 refine os_ ex_ ?_
 refine os_ ex_ ?_
 refine os_ mv_ ?_
 refine os_ mv_ ?_
 refine OD.wk (Wk.as_ (n := 113) (l' := [(13, _), (14, _), (15, _), (16, _), (17, _), (18, _), (19, _)]) (S' := [⟨b16, 26, 3, [_, _, _]⟩, ⟨b5, 45, 4, [_, _, _, _]⟩]) rfl rfl ⟨lk, lk, lk, lk, lk, lk, lk, trivial⟩) ?_
 refine OD.nil ?_
 refine sr_ ?_
 refine OD.callP (wants_plain rfl) rfl rfl rfl Tryz.call8 (colsOf_vp) trivial ?_
 refine OD.callP (wants_plain rfl) rfl rfl rfl Tryz.call10 (VC.nil2 hbn) ⟨ot, opd_const, trivial⟩ ?_
 refine os_ mv_ ?_
 refine os_ ex_ ?_
 refine os_ ex_ ?_
 refine os_ ex_ ?_
 refine os_ mv_ ?_
 refine os_ mv_ ?_
 refine os_ mv_ ?_
 refine OD.wk (Wk.as_ (n := 113) (l' := [(13, _), (14, _), (15, _), (16, _), (17, _), (18, _), (19, _), (20, _), (21, _), (22, _)]) (S' := [⟨b16, 26, 3, [_, _, _]⟩, ⟨b5, 45, 4, [_, _, _, _]⟩]) rfl rfl ⟨lk, lk, lk, lk, lk, lk, lk, lk, lk, lk, trivial⟩) ?_
 refine OD.nil ?_
 refine CD.seq ?_
 refine sr_ ?_
 refine os_ mv_ ?_
 refine os_ bn_ ?_
 refine os_ mv_ ?_
 refine OD.split (t := 58) lk (fun hg58 => ?_) (fun hg58 => ?_)
 ·exact absurd hg58 (by simp)
 ·have hg58' := hg58; (try simp only [V.cnd, ne_eq] at hg58')
  refine os_ mv_ ?_
  refine os_ bn_ ?_
  refine os_ pkF_ ?_
  refine os_ mv_ ?_
  refine OD.split (t := 62) lk (fun hg62 => ?_) (fun hg62 => ?_)
  ·exact absurd hg62 (by simp)
  ·have hg62' := hg62; (try simp only [V.cnd, ne_eq] at hg62')
   refine os_ mv_ ?_
   refine os_ ln_ ?_
   refine os_ mv_ ?_
   refine os_ ln_ ?_
   refine OD.still (wants_T rfl rfl rfl lk (by first | rfl | assumption)) rfl (still_bin rfl ot ot (bin_add (wrap_i64 (by decide) (by decide)))) ?_
   refine os_ bn_ ?_
   refine os_ pkF_ ?_
   refine os_ mv_ ?_
   refine OD.split (t := 70) lk (fun hg70 => ?_) (fun hg70 => ?_)
   ·exact absurd hg70 (by simp)
   ·have hg70' := hg70; (try simp only [V.cnd, ne_eq] at hg70')
    refine os_ mv_ ?_
    refine os_ ln_ ?_
    refine os_ bn_ ?_
    refine os_ pkF_ ?_
    refine OD.wk (Wk.as_ (n := 113) (l' := [(13, _), (14, _), (15, _), (16, _), (17, _), (18, _), (74, _)]) (S' := [⟨b16, 26, 3, [_, _, _]⟩, ⟨b5, 45, 4, [_, _, _, _]⟩]) rfl rfl ⟨lk, lk, lk, lk, lk, lk, lk, trivial⟩) ?_
    refine OD.nil ?_
    refine CD.cond ot (fun hc0 => ?_) (fun hc0 => ?_)
    ·exact absurd hc0 (by rw [hkl]; decide)
    ·have hc0' := hc0
     (try simp only [V.cnd, ne_eq] at hc0')
     refine CD.skip ?_
     refine CD.seq ?_
     refine sr_ ?_
     refine os_ mv_ ?_
     refine os_ bn_ ?_
     refine os_ mv_ ?_
     refine OD.split (t := 77) lk (fun hg77 => ?_) (fun hg77 => ?_)
     ·have hg77' := hg77; (try simp only [V.cnd, ne_eq] at hg77')
      refine sk_ ?_
      refine sk_ ?_
      refine os_ pkT_ ?_
      refine os_ mv_ ?_
      refine sk_ ?_
      refine sk_ ?_
      refine sk_ ?_
      refine os_ pkT_ ?_
      refine nm_ [13, 14, 15, 18, 85] ?_
      refine CD.condT ot (by first | rfl | assumption) ?_
      refine sr_ ?_
      refine os_ mv_ ?_
      refine os_ bn_ ?_
      refine os_ mv_ ?_
      refine OD.split (t := 88) lk (fun hg88 => ?_) (fun hg88 => ?_)
      ·have hg88' := hg88; (try simp only [V.cnd, ne_eq] at hg88')
       refine sk_ ?_
       refine sk_ ?_
       refine os_ pkT_ ?_
       refine os_ mv_ ?_
       refine sk_ ?_
       refine sk_ ?_
       refine os_ pkT_ ?_
       refine os_ mv_ ?_
       refine nm_ [10] ?_
       refine CD.ret ?_
       refine r1_ ?_
       first | exact ⟨rfl, rfl⟩ | (refine ⟨vb ?_, rfl⟩; exact high_le (hin.2.resolve_left (by show ¬ hi.length = 0; omega)))
      ·have hg88' := hg88; (try simp only [V.cnd, ne_eq] at hg88')
       refine os_ mv_ ?_
       refine os_ bn_ ?_
       refine os_ pkF_ ?_
       refine os_ mv_ ?_
       refine OD.split (t := 92) lk (fun hg92 => ?_) (fun hg92 => ?_)
       ·have hg92' := hg92; (try simp only [V.cnd, ne_eq] at hg92')
        refine sk_ ?_
        refine sk_ ?_
        refine os_ pkT_ ?_
        refine os_ mv_ ?_
        refine nm_ [10] ?_
        refine CD.ret ?_
        refine r1_ ?_
        first | exact ⟨rfl, rfl⟩ | (refine ⟨vb ?_, rfl⟩; exact high_le (hin.2.resolve_left (by show ¬ hi.length = 0; omega)))
       ·exact absurd hg92 (by rcases hbe with h | h <;> simp_all)
     ·have hg77' := hg77; (try simp only [V.cnd, ne_eq] at hg77')
      refine os_ mv_ ?_
      refine os_ bn_ ?_
      refine os_ pkF_ ?_
      refine os_ mv_ ?_
      refine OD.split (t := 81) lk (fun hg81 => ?_) (fun hg81 => ?_)
      ·have hg81' := hg81; (try simp only [V.cnd, ne_eq] at hg81')
       refine sk_ ?_
       refine sk_ ?_
       refine sk_ ?_
       refine os_ pkT_ ?_
       refine nm_ [13, 14, 15, 18, 85] ?_
       refine CD.condT ot (by first | rfl | assumption) ?_
       refine sr_ ?_
       refine os_ mv_ ?_
       refine os_ bn_ ?_
       refine os_ mv_ ?_
       refine OD.split (t := 88) lk (fun hg88 => ?_) (fun hg88 => ?_)
       ·have hg88' := hg88; (try simp only [V.cnd, ne_eq] at hg88')
        refine sk_ ?_
        refine sk_ ?_
        refine os_ pkT_ ?_
        refine os_ mv_ ?_
        refine sk_ ?_
        refine sk_ ?_
        refine os_ pkT_ ?_
        refine os_ mv_ ?_
        refine nm_ [10] ?_
        refine CD.ret ?_
        refine r1_ ?_
        first | exact ⟨rfl, rfl⟩ | (refine ⟨vb ?_, rfl⟩; exact high_le (hin.2.resolve_left (by show ¬ hi.length = 0; omega)))
       ·have hg88' := hg88; (try simp only [V.cnd, ne_eq] at hg88')
        refine os_ mv_ ?_
        refine os_ bn_ ?_
        refine os_ pkF_ ?_
        refine os_ mv_ ?_
        refine OD.split (t := 92) lk (fun hg92 => ?_) (fun hg92 => ?_)
        ·have hg92' := hg92; (try simp only [V.cnd, ne_eq] at hg92')
         refine sk_ ?_
         refine sk_ ?_
         refine os_ pkT_ ?_
         refine os_ mv_ ?_
         refine nm_ [10] ?_
         refine CD.ret ?_
         refine r1_ ?_
         first | exact ⟨rfl, rfl⟩ | (refine ⟨vb ?_, rfl⟩; exact high_le (hin.2.resolve_left (by show ¬ hi.length = 0; omega)))
        ·exact absurd hg92 (by rcases hbe with h | h <;> simp_all)
      ·have hg81' := hg81; (try simp only [V.cnd, ne_eq] at hg81')
       refine os_ (lab_ 0 [_, _, _]) ?_
       refine OD.still (wants_T rfl rfl rfl lk (by first | rfl | assumption)) rfl (still_bld (pl := [(0, _), (1, _)]) (ds := [_, _, _]) rfl Tryz.zeroValue26 Tryz.runUnderlying26 places26_Exe ⟨rfl, opd_const, rfl, opd_const, trivial⟩ rfl rfl) ?_
       refine OD.still (wants_T rfl rfl rfl lk (by first | rfl | assumption)) rfl (still_neS (us := [_, _, _]) (us' := [_, _, _]) rfl ot ot Tryz.eqGuardType26 (Vl.eqs26 v ⟨1, 1, ⟨#[]⟩⟩)) ?_
       refine os_ pkF_ ?_
       refine OD.wk (Wk.as_ (n := 113) (l' := [(13, _), (14, _), (15, _), (18, _), (85, _)]) (S' := [⟨b16, 26, 3, [_, _, _]⟩, ⟨b5, 45, 4, [_, _, _, _]⟩]) rfl rfl ⟨lk, lk, lk, lk, lk, trivial⟩) ?_
       refine OD.nil ?_
       refine CD.cond ot (fun hc1 => ?_) (fun hc1 => ?_)
       ·have hc1' := hc1
        (try simp only [V.cnd, ne_eq] at hc1')
        refine sr_ ?_
        refine os_ mv_ ?_
        refine os_ bn_ ?_
        refine os_ mv_ ?_
        refine OD.split (t := 88) lk (fun hg88 => ?_) (fun hg88 => ?_)
        ·have hg88' := hg88; (try simp only [V.cnd, ne_eq] at hg88')
         refine sk_ ?_
         refine sk_ ?_
         refine os_ pkT_ ?_
         refine os_ mv_ ?_
         refine sk_ ?_
         refine sk_ ?_
         refine os_ pkT_ ?_
         refine os_ mv_ ?_
         refine nm_ [10] ?_
         refine CD.ret ?_
         refine r1_ ?_
         first | exact ⟨rfl, rfl⟩ | (refine ⟨vb ?_, rfl⟩; exact high_le (hin.2.resolve_left (by show ¬ hi.length = 0; omega)))
        ·have hg88' := hg88; (try simp only [V.cnd, ne_eq] at hg88')
         refine os_ mv_ ?_
         refine os_ bn_ ?_
         refine os_ pkF_ ?_
         refine os_ mv_ ?_
         refine OD.split (t := 92) lk (fun hg92 => ?_) (fun hg92 => ?_)
         ·have hg92' := hg92; (try simp only [V.cnd, ne_eq] at hg92')
          refine sk_ ?_
          refine sk_ ?_
          refine os_ pkT_ ?_
          refine os_ mv_ ?_
          refine nm_ [10] ?_
          refine CD.ret ?_
          refine r1_ ?_
          first | exact ⟨rfl, rfl⟩ | (refine ⟨vb ?_, rfl⟩; exact high_le (hin.2.resolve_left (by show ¬ hi.length = 0; omega)))
         ·exact absurd hg92 (by rcases hbe with h | h <;> simp_all)
       ·have hc1' := hc1
        (try simp only [V.cnd, ne_eq] at hc1')
        have he0 : e = 0 := by simpa using hg77
        have hf0 : f = 0 := by simpa using hg81
        have hvv : v.k = 1 ∧ v.n = 1 := by simp at hc1; exact ⟨hc1.1, hc1.2.1⟩
        have hin := hho he0 hf0 hvv.1 hvv.2
        have hlw := low_le hin.1
        refine CD.skip ?_
        refine sr_ ?_
        refine os_ mv_ ?_
        first | refine OD.still (wants_plain rfl) rfl (still_ofBytes rfl ot Tryz.underlying39 Tryz.underlying5 Tryz.underlying9) ?_ | refine OD.still (wants_plain rfl) rfl (still_ofBytesF rfl ot Tryz.underlying39 Tryz.underlying5 Tryz.underlying9) ?_
        refine os_ mv_ ?_
        first | refine OD.still (wants_plain rfl) rfl (still_ofBytes rfl ot Tryz.underlying39 Tryz.underlying5 Tryz.underlying9) ?_ | refine OD.still (wants_plain rfl) rfl (still_ofBytesF rfl ot Tryz.underlying39 Tryz.underlying5 Tryz.underlying9) ?_
        refine os_ bn_ ?_
        refine os_ mv_ ?_
        refine OD.split (t := 101) lk (fun hg101 => ?_) (fun hg101 => ?_)
        ·have hg101' := hg101; (try simp only [V.cnd, ne_eq] at hg101')
         refine os_ mv_ ?_
         refine os_ ln_ ?_
         refine os_ bn_ ?_
         refine os_ mv_ ?_
         refine OD.split (t := 105) lk (fun hg105 => ?_) (fun hg105 => ?_)
         ·have hg105' := hg105; (try simp only [V.cnd, ne_eq] at hg105')
          refine sk_ ?_
          refine sk_ ?_
          refine sk_ ?_
          refine sk_ ?_
          refine sk_ ?_
          refine os_ pkT_ ?_
          refine os_ pkT_ ?_
          refine os_ mv_ ?_
          refine OD.wk (Wk.as_ (n := 113) (l' := [(10, _)]) (S' := [⟨b16, 26, 3, [_, _, _]⟩, ⟨b5, 45, 4, [_, _, _, _]⟩]) rfl rfl ⟨lk, trivial⟩) ?_
          refine OD.nil ?_
          refine CD.ret ?_
          refine ⟨.inr rfl, _, [], List.nil_sublist _, ret_one Tryz.results4 (res_tmp (Nat.le_of_ble_eq_true rfl) lk), ?_⟩
          first | exact ⟨rfl, rfl⟩ | (refine ⟨vb ?_, rfl⟩; exact high_le (hin.2.resolve_left (by show ¬ hi.length = 0; omega)))
         ·have hg105' := hg105; (try simp only [V.cnd, ne_eq] at hg105')
          refine os_ mv_ ?_
          first | refine OD.still (wants_T rfl rfl rfl lk (by first | rfl | assumption)) rfl (still_ofBytes rfl ot Tryz.underlying39 Tryz.underlying5 Tryz.underlying9) ?_ | refine OD.still (wants_T rfl rfl rfl lk (by first | rfl | assumption)) rfl (still_ofBytesF rfl ot Tryz.underlying39 Tryz.underlying5 Tryz.underlying9) ?_
          refine os_ mv_ ?_
          first | refine OD.still (wants_T rfl rfl rfl lk (by first | rfl | assumption)) rfl (still_ofBytes rfl ot Tryz.underlying39 Tryz.underlying5 Tryz.underlying9) ?_ | refine OD.still (wants_T rfl rfl rfl lk (by first | rfl | assumption)) rfl (still_ofBytesF rfl ot Tryz.underlying39 Tryz.underlying5 Tryz.underlying9) ?_
          refine os_ bn_ ?_
          refine os_ pkF_ ?_
          refine os_ pkT_ ?_
          refine os_ mv_ ?_
          refine OD.wk (Wk.as_ (n := 113) (l' := [(10, _)]) (S' := [⟨b16, 26, 3, [_, _, _]⟩, ⟨b5, 45, 4, [_, _, _, _]⟩]) rfl rfl ⟨lk, trivial⟩) ?_
          refine OD.nil ?_
          refine CD.ret ?_
          refine ⟨.inr rfl, _, [], List.nil_sublist _, ret_one Tryz.results4 (res_tmp (Nat.le_of_ble_eq_true rfl) lk), ?_⟩
          first | exact ⟨rfl, rfl⟩ | (refine ⟨vb ?_, rfl⟩; exact high_le (hin.2.resolve_left (by show ¬ hi.length = 0; omega)))
        ·exact absurd hg101 (by rw [hlw]; decide)

theorem walkBoundsHold (t : Tw) (vt : Value) (okt : t.Ok) (a : Int) (wa : (Lit.int .i64 a).wf = true) (b : Int) (wb : (Lit.int .i64 b).wf = true) (s : ByteArray) (ws : s.size ≤ maxLen) (c : Int) (wc : (Lit.int .i64 c).wf = true) (w : World) (h1 : MarksTab w) (h2 : WordsTab w) (h3 : TypesTab w) {m : Int} (hm : Tab.TabAt w 2 [Value.int .i64 m]) (hvt : Rep w (fun _ => False) (.agg t.cs) vt) : Calls Tryz.prog 4 #[vt, .int .i64 a, .int .i64 b, .string s, .int .i64 c] w fun e w' => e = .returned (.bool true) ∧ Below w.heap.size w w' :=
 (hold_vp (G := TGM m) tm1 tm2 tm3 tm4 t okt a (wf_bd wa).1 (wf_bd wa).2 b (wf_bd wb).1 (wf_bd wb).2 s ws c (wf_bd wc).1 (wf_bd wc).2).runL (tgmx h1 h2 h3 hm) (vs := [vt, _, _, _, _]) (RepL.cons hvt (RepL.vs w _ [_, _, _, _]))

end Go.Proofs.YtfooincnmobemaaGreatDoor.Ex
