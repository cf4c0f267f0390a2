/-
  What the proof of ParseTorn leans on, part 4 of 6: walks of the program's functions at the level of values, and plain facts of what they compute.
-/
import Derived.Test.YtjgekbmahhhokaaDoorPParseTorn3
set_option linter.unusedVariables false
set_option linter.unusedSimpArgs false
set_option maxRecDepth 100000
set_option maxHeartbeats 4000000
namespace Go.Proofs.YtjgekbmahhhokaaDoor.Pa
open Go.Proofs.Tryd
open Go.RowKit V Pk Go.Proofs.YtjgekbmahhhokaaDoor.Vl Go.Proofs.YtjgekbmahhhokaaDoor.Nm
variable {G : List (Nat × List Value)}

def cTL (q : List Tk) : List D := [.list 3 (q.flatMap cT) q.length]
theorem info24_Pe2 : (Tryd.prog.info? 24).map (fun i => (i.zero, i.size, i.bytes)) = some (some (.agg #[.int .i64 0, .string ⟨#[]⟩, .int .i64 0]), 3, 32) := by kernel_rfl

theorem growcT_vc (n : Nat) (h0 : 0 < n) (hn : n ≤ 100000) : VC Tryd.prog G 80 [.v (.slice none 0 0), .v (.int .i64 (n : Nat))] [] (fun r S => ∃ b cap, cap ≤ maxLen ∧ r = .v (.slice (some ⟨b, 0, none⟩) 0 cap) ∧ S = [⟨b, 24, cap * 3, []⟩]) := by
 refine VC.body func80 rfl ntmps80 le_ fun X0 w0 S00 => ?_
 refine sr_ ?_
 refine om_ ?_
 refine nm_ [0, 1] ?_
 refine CD.seq ?_
 refine sr_ ?_
 refine om_ ?_
 refine os_ bn_ ?_
 refine nm_ [0, 1, 6] ?_
 refine CD.cond ot (fun hc0 => ?_) (fun hc0 => ?_)
 ·exact absurd hc0 (by simp at hc0; omega)
 have hc0' := hc0
 (try simp only [V.cnd, ne_eq] at hc0')
 refine CD.skip ?_
 refine CD.seq ?_
 refine sr_ ?_
 refine om_ ?_
 refine om_ ?_
 refine os_ (still_cap rfl rfl ot runUnderlying26) ?_
 refine om_ ?_
 refine os_ (still_r1 (mk := fun y => .call { callee := .builtin .len, args := #[y], argTypes := #[26] }) rfl ot (len_row rfl runUnderlying26)) ?_
 refine os_ bn_ ?_
 refine os_ bn_ ?_
 refine om_ ?_
 refine on_ [(0, _), (1, _)] [] ?_
 refine sr_ ?_
 refine om_ ?_
 refine os_ bn_ ?_
 refine nm_ [0, 1, 16] ?_
 refine CD.cond ot (fun hc1 => ?_) (fun hc1 => ?_)
 ·have hc1' := hc1
  (try simp only [V.cnd, ne_eq] at hc1')
  refine CD.region ?_
  refine om_ ?_
  refine om_ ?_
  refine os_ (still_cap rfl rfl ot runUnderlying26) ?_
  refine os_ (still_nslice rfl ot rfl ⟨_, _, ot, rfl⟩ runUnderlying26 sizeOf24) ?_
  refine om_ ?_
  refine OD.appendZ0 (m := n) (sz := 3) wp_ rfl rfl underlying26 underlying3 info24_Pe2 rfl (by decide) ot (Eq.trans ot (congrArg (fun z => D.v (.int .i64 z)) (show ((n : Nat) : Int) - (0 - 0) = ((n : Nat) : Int) by omega))) h0 (by simp only [maxLen]; omega) (by omega) (fun b cap h1 h2 => ?_)
  refine om_ ?_
  refine os_ (still_r1 (mk := fun y => .call { callee := .builtin .len, args := #[y], argTypes := #[26] }) rfl ot (len_row rfl runUnderlying26)) ?_
  refine os_ (still_rs (l := 0) (h := 0) rfl ot trivial ⟨_, ot⟩ (by first | exact sl_row (fun h => by cases h) runUnderlying26 sizeOf24 (by omega) | exact sl_list (fun _ => rfl) (fun h => by cases h) runUnderlying26 sizeOf24 (by omega) (by omega))) ?_
  refine om_ ?_
  refine on_ [(0, _)] [_] ?_
  refine sr_ ?_
  refine om_ ?_
  refine om_ ?_
  refine nm_ [4] ?_
  refine CD.ret ?_
  refine ⟨.inr rfl, _, [⟨b, 24, cap * 3, []⟩], List.Sublist.refl _, ret_one results80 (res_tmp le_ lk), ?_⟩
  exact ⟨b, cap, h2, rfl, rfl⟩
 exact absurd hc1 (by simp at hc1; omega)

theorem concatcT_vc (ls : List (List Tk)) (hls : ls.length ≤ 1000) (h0 : 0 < ls.flatten.length) (hn : ls.flatten.length ≤ 100000) : VC Tryd.prog G 57 [.list 1 (ls.flatMap cTL) ls.length] [] (fun r S => ∃ ad cap, r = .v (.slice ad ls.flatten.length cap) ∧ OwnL 24 3 (ls.flatten.flatMap cT) ls.flatten.length ad cap S) := by
 refine VC.body func57 rfl ntmps57 le_ fun X0 w0 S00 => ?_
 refine sr_ ?_
 refine om_ ?_
 refine nm_ [0] ?_
 refine sr_ ?_
 refine om_ ?_
 refine nm_ [0, 3] ?_
 refine CD.seq ?_
 refine sr_ ?_
 refine om_ ?_
 refine os_ ln_ ?_
 refine om_ ?_
 refine nm_ [0, 3, 9, 10, 11] ?_
 refine CD.block ?_
 refine lp_ (fun (j : Nat) y__ => (j ≤ ls.length) ∧ y__ = (⟨36, [(0, .list 1 (ls.flatMap cTL) ls.length), (3, .v (.int .i64 ((((ls.take j).flatten).length : Nat) : Int))), (9, .list 1 (ls.flatMap cTL) ls.length), (10, .v (.int .i64 (ls.length : Nat))), (11, .v (.int .i64 (j : Nat)))], []⟩ : St)) (fun (j : Nat) => ls.length - j) 0 ⟨(Nat.zero_le _), rfl⟩ (Wk.asS rfl sv_ (by repeat (first | exact trivial | refine ⟨(by (repeat (first | exact look_hit | (apply look_at; focus (first | rfl | (congr 2; omega) | (simp; done))) | (apply look_miss; focus rfl))); done), ?_⟩))) ?_
 rintro j _ ⟨hj, rfl⟩
 refine sr_ ?_
 refine os_ bn_ ?_
 refine nm_ [0, 3, 9, 10, 11, 12] ?_
 refine CD.seq ?_
 refine CD.cond ot (fun hc0 => ?_) (fun hc0 => ?_)
 ·have hc0' := hc0
  (try simp only [V.cnd, ne_eq] at hc0')
  have hlt : j < ls.length := by simp at hc0; omega
  have hsum := take_flat_len hlt
  have hle := take_flat_le ls (j + 1)
  refine CD.skip ?_
  refine CD.seq ?_
  refine CD.block ?_
  refine sr_ ?_
  refine os_ (ix_ 1 (h := by first | exact .l (j := j) rfl hlt | exact .r (j := j) rfl hlt)) ?_
  refine os_ ld_ ?_
  refine om_ ?_
  refine nm_ [0, 3, 5, 9, 10, 11] ?_
  refine sr_ ?_
  refine om_ ?_
  refine om_ ?_
  refine os_ ln_ ?_
  refine os_ (still_bin (r := .int .i64 ((((ls.take (j + 1)).flatten).length : Nat) : Int)) rfl ot ot (bin_add (by rw [show ((((ls.take j).flatten).length : Nat) : Int) + (ls[j].length : Nat) = ((((ls.take (j + 1)).flatten).length : Nat) : Int) by omega]; exact wrap_i64 (by omega) (by omega)))) ?_
  refine om_ ?_
  refine on_ [(0, _), (3, _), (9, _), (10, _), (11, _)] [] ?_
  refine sr_ ?_
  refine om_ ?_
  refine os_ bn_ ?_
  refine nm_ [0, 3, 9, 10, 11, 20] ?_
  refine CD.cond ot (fun hc1 => ?_) (fun hc1 => ?_)
  ·exact absurd hc1 (by simp at hc1; omega)
  have hc1' := hc1
  (try simp only [V.cnd, ne_eq] at hc1')
  refine CD.skip ?_
  refine CD.region ?_
  refine os_ bn_ ?_
  refine om_ ?_
  refine nm_ [0, 3, 9, 10, 11] ?_
  refine ⟨(j + 1), _, ?_, ?_, (by omega), rfl⟩
  ·first | omega | (simp only []; omega)
  exact Wk.asS (n := 36) rfl sv_ (by repeat (first | exact trivial | refine ⟨(by (repeat (first | exact look_hit | (apply look_at; focus (first | rfl | (congr 2; omega) | (simp; done))) | (apply look_miss; focus rfl))); done), ?_⟩))
 have hc0' := hc0
 (try simp only [V.cnd, ne_eq] at hc0')
 obtain rfl : j = ls.length := by simp at hc0; omega
 rw [List.take_length]
 refine CD.exit ?_
 refine sr_ ?_
 refine om_ ?_
 refine OD.call wp_ rfl rfl rfl call80 (growcT_vc ls.flatten.length h0 hn) ⟨opd_const, ot, trivial⟩ (List.Perm.refl _) ?_
 rintro _ _ ⟨b, cp, hcp, rfl, rfl⟩
 refine OD.perm (S' := [⟨b, 24, cp * 3, []⟩]) (List.Perm.refl _) ?_
 refine om_ ?_
 refine OD.wk (Wk.as_ (n := 36) (l' := [(0, _), (6, _)]) (S' := ([⟨b, 24, cp * 3, []⟩])) rfl rfl sl_) ?_
 refine OD.nil ?_
 refine CD.seq ?_
 refine sr_ ?_
 refine om_ ?_
 refine os_ ln_ ?_
 refine om_ ?_
 refine nm_ [6, 25, 26, 27] ?_
 refine CD.block ?_
 refine lp_ (fun (gh__ : Nat × Option Addr × Nat × List Blk) y__ => match gh__ with | (j, adx, cpx, Sx) => (j ≤ ls.length) ∧ (OwnL 24 3 (((ls.take j).flatten).flatMap cT) ((ls.take j).flatten).length adx cpx Sx) ∧ y__ = (⟨36, [(6, .v (.slice adx ((ls.take j).flatten).length cpx)), (25, .list 1 (ls.flatMap cTL) ls.length), (26, .v (.int .i64 (ls.length : Nat))), (27, .v (.int .i64 (j : Nat)))], (Sx)⟩ : St)) (fun (gh__ : Nat × Option Addr × Nat × List Blk) => match gh__ with | (j, adx, cpx, Sx) => ls.length - j) (0, (some ⟨b, 0, none⟩), cp, [⟨b, 24, cp * 3, []⟩]) ⟨(Nat.zero_le _), (OwnL.cast (ownL_zero hcp) (by rfl)), rfl⟩ (Wk.asS rfl su_ (by repeat (first | exact trivial | refine ⟨(by (repeat (first | exact look_hit | (apply look_at; focus (first | rfl | (simp; done) | (congr 2; omega) | (apply row_eq; rw [take_flat hlt]) | (apply row_eq; rfl) | (apply row_eq; simp; done))) | (apply look_miss; focus rfl))); done), ?_⟩))) ?_
 rintro ⟨j, adx, cpx, Sx⟩ _ ⟨hj, hox, rfl⟩
 refine sr_ ?_
 refine os_ bn_ ?_
 refine nm_ [6, 25, 26, 27, 28] ?_
 refine CD.seq ?_
 refine CD.cond ot (fun hc2 => ?_) (fun hc2 => ?_)
 ·have hc2' := hc2
  (try simp only [V.cnd, ne_eq] at hc2')
  have hlt : j < ls.length := by simp at hc2; omega
  have hsum := take_flat_len hlt
  have hle := take_flat_le ls (j + 1)
  refine CD.skip ?_
  refine CD.seq ?_
  refine CD.block ?_
  refine sr_ ?_
  refine os_ (ix_ 1 (h := by first | exact .l (j := j) rfl hlt | exact .r (j := j) rfl hlt)) ?_
  refine os_ ld_ ?_
  refine om_ ?_
  refine nm_ [6, 8, 25, 26, 27] ?_
  refine CD.region ?_
  refine om_ ?_
  refine om_ ?_
  refine OD.appendAny (ls := ((ls.take j).flatten)) (new := ls[j]) (Sq := Sx) cT_len cT_one wp_ rfl rfl underlying26 info24_Pe2 rfl (by decide) runUnderlying26 sizeOf24 ot hox (perm_r11 (A := [])) ot (by simp only [maxLen]; omega) (by omega) (fun ad33 cp33 S33 ho33 => ?_)
  refine OD.perm (perm_q11 (A := [])) ?_
  refine om_ ?_
  refine OD.wk (Wk.as_ (n := 36) (l' := [(6, _), (25, _), (26, _), (27, _)]) (S' := (S33)) rfl rfl sl_) ?_
  refine OD.nil ?_
  refine CD.region ?_
  refine os_ bn_ ?_
  refine om_ ?_
  refine nm_ [6, 25, 26, 27] ?_
  refine ⟨((j + 1), ad33, cp33, S33), _, ?_, ?_, (by omega), (OwnL.cast ho33 (by rw [take_flat hlt])), rfl⟩
  ·first | omega | (simp only []; omega)
  exact Wk.asS (n := 36) rfl su_ (by repeat (first | exact trivial | refine ⟨(by (repeat (first | exact look_hit | (apply look_at; focus (first | rfl | (simp; done) | (congr 2; omega) | (apply row_eq; rw [take_flat hlt]) | (apply row_eq; rfl) | (apply row_eq; simp; done))) | (apply look_miss; focus rfl))); done), ?_⟩))
 have hc2' := hc2
 (try simp only [V.cnd, ne_eq] at hc2')
 obtain rfl : j = ls.length := by simp at hc2; omega
 refine CD.exit ?_
 refine sr_ ?_
 refine om_ ?_
 refine om_ ?_
 refine nm_ [2] ?_
 refine CD.ret ?_
 refine ⟨.inr rfl, _, Sx, List.Sublist.refl _, ret_one results57 (res_tmp le_ lk), ?_⟩
 have hox' := hox
 rw [List.take_length] at hox'
 exact ⟨adx, cpx, by rw [List.take_length], hox'⟩

theorem concat_vp (ls : List (List Tk)) (hls : ls.length ≤ 1000) (h0 : 0 < ls.flatten.length) (hn : ls.flatten.length ≤ 100000) : VP Tryd.prog G 57 [.list 1 (ls.flatMap cTL) ls.length] (.list 3 (ls.flatten.flatMap cT) ls.flatten.length) := VC.given cT_len (concatcT_vc ls hls h0 hn)
def tokO (o : OpL) (a b : List Tk) : List Tk :=
 if o.k = 1 then showV o.v else if o.k = 2 then [wordT o.nm]
 else if o.k = 5 then [[markT ⟨#[40]⟩, wordT ⟨#[78, 79, 84]⟩], a, [markT ⟨#[41]⟩]].flatten
 else if o.k = 11 then [[markT ⟨#[40]⟩], a, [wordT ⟨#[73, 83]⟩, wordT ⟨#[78, 85, 76, 76]⟩], [markT ⟨#[41]⟩]].flatten
 else [[markT ⟨#[40]⟩], a, [betT o.k], b, [markT ⟨#[41]⟩]].flatten
def lowO (h : List (List Tk)) (o : OpL) : Nat := h.length - (popsF o.k).toNat
def stepO (h : List (List Tk)) (o : OpL) : List (List Tk) := h.take (lowO h o) ++ [tokO o (h.getD (lowO h o) []) (h.getD (lowO h o + 1) [])]
def showO (l : List OpL) : List Tk := (l.foldl stepO []).getD 0 []
theorem opErr_0 {h : Int} {o : OpL} (he : opErr h o = 0) : 1 ≤ o.k ∧ o.k ≤ 11 ∧ litF o.v = 0 ∧ popsF o.k ≤ h := by
 unfold opErr at he
 split at he
 ·cases he
 split at he
 ·exact absurd he (by assumption)
 split at he
 ·cases he
 split at he
 ·rename_i h4; exact absurd he h4.2
 split at he
 ·cases he
 exact ⟨by omega, by omega, by omega, by omega⟩
theorem exprL_0 {l : List OpL} {i : Nat} {h : Int} (hi : i < l.length) (he : exprL h (l.drop i) = 0) : opErr h l[i] = 0 := by
 rw [List.drop_eq_getElem_cons hi, exprL] at he
 split at he
 ·assumption
 exact he
theorem lit_ok {v : Vl} (h : litF v = 0) (h1 : -9223372036854775808 ≤ v.n) (h2 : v.n ≤ 9223372036854775807) : okV v := by
 unfold litF checkV at h
 split at h
 ·cases h
 have hn : ¬ (v.k = 2 ∧ v.n = -9223372036854775808) := by assumption
 repeat' split at h
 all_goals first | (exfalso; omega) | (unfold okV; refine ⟨?_, ?_, h2⟩ <;> omega)
theorem step_len {h : List (List Tk)} {o : OpL} (hp : popsF o.k ≤ (h.length : Int)) : ((stepO h o).length : Int) = h.length + (1 - popsF o.k) := by
 have := pops_bd o.k
 unfold stepO lowO
 rw [List.length_append, List.length_take]; simp only [List.length_cons, List.length_nil]; omega
theorem flat_take_drop (h : List (List Tk)) (n : Nat) : h.flatten.length = (h.take n).flatten.length + (h.drop n).flatten.length := by
 conv => lhs; rw [← List.take_append_drop n h, List.flatten_append, List.length_append]
theorem getD_flat {h : List (List Tk)} {n : Nat} : (h.getD n []).length ≤ (h.drop n).flatten.length ∧ (h.getD n []).length + (h.getD (n + 1) []).length ≤ (h.drop n).flatten.length := by
 by_cases hn : n < h.length
 ·rw [List.drop_eq_getElem_cons hn]
  have e1 : h.getD n [] = h[n] := by rw [List.getD_eq_getElem?_getD, List.getElem?_eq_getElem hn]; rfl
  rw [e1, List.flatten_cons, List.length_append]
  refine ⟨by omega, ?_⟩
  by_cases hn2 : n + 1 < h.length
  ·rw [List.drop_eq_getElem_cons hn2, List.flatten_cons, List.length_append]
   have e2 : h.getD (n + 1) [] = h[n + 1] := by rw [List.getD_eq_getElem?_getD, List.getElem?_eq_getElem hn2]; rfl
   rw [e2]; omega
  have e2 : h.getD (n + 1) [] = [] := by rw [List.getD_eq_getElem?_getD, List.getElem?_eq_none (by omega)]; rfl
  rw [e2]; simp only [List.length_nil]; omega
 have e1 : h.getD n [] = [] := by rw [List.getD_eq_getElem?_getD, List.getElem?_eq_none (by omega)]; rfl
 have e2 : h.getD (n + 1) [] = [] := by rw [List.getD_eq_getElem?_getD, List.getElem?_eq_none (by omega)]; rfl
 rw [e1, e2]; exact ⟨by simp, by simp⟩
theorem tok_len (o : OpL) (a b : List Tk) : (tokO o a b).length ≤ a.length + b.length + 5 ∧ 0 < (tokO o a b).length := by
 have := showV_len o.v
 unfold tokO
 repeat' split
 all_goals first | exact ⟨by omega, by omega⟩ | (simp only [List.flatten_cons, List.flatten_nil, List.length_append, List.length_cons, List.length_nil]; exact ⟨by omega, by omega⟩)
theorem step_flat {h : List (List Tk)} {o : OpL} : (stepO h o).flatten.length ≤ h.flatten.length + 5 := by
 have h1 := flat_take_drop h (lowO h o)
 have h2 := (getD_flat (h := h) (n := lowO h o)).2
 have h3 := (tok_len o (h.getD (lowO h o) []) (h.getD (lowO h o + 1) [])).1
 unfold stepO
 rw [List.flatten_append, List.length_append]; simp only [List.flatten_cons, List.flatten_nil, List.append_nil]; omega
theorem fold_step {l : List OpL} {i : Nat} (hi : i < l.length) : (l.take (i + 1)).foldl stepO [] = stepO ((l.take i).foldl stepO []) l[i] := by
 rw [List.take_succ_eq_append_getElem hi, List.foldl_append]; rfl
theorem own_pos {e sz n cap : Nat} {cs : List D} {ad : Option Addr} {S : List Blk} (h : OwnL e sz cs n ad cap S) (hn : 0 < n) : ∃ b, ad = some ⟨b, 0, none⟩ ∧ n ≤ cap ∧ cap ≤ maxLen ∧ S = [⟨b, e, cap * sz, cs⟩] := by
 rcases h with ⟨h1, _⟩ | h
 ·omega
 exact h
theorem getD_at {α : Type} {h : List α} {n : Nat} {d : α} (hn : n < h.length) : h.getD n d = h[n] := by rw [List.getD_eq_getElem?_getD, List.getElem?_eq_getElem hn]; rfl

theorem info26_Pe2 : (Tryd.prog.info? 26).map (fun i => (i.zero, i.size, i.bytes)) = some (some (.slice none 0 0), 1, 24) := by kernel_rfl

theorem showOps_vp (l : List OpL) (hl : l.length ≤ 40) (he : exprL 0 l = 0) (hr : ∀ o ∈ l, -9223372036854775808 ≤ o.v.n ∧ o.v.n ≤ 9223372036854775807) : VP Tryd.prog G 59 [.list 5 (l.flatMap cO) l.length] (.list 3 ((showO l).flatMap cT) (showO l).length) := by
 refine VC.body func59 rfl ntmps59 le_ fun X0 w0 S00 => ?_
 have hmx : maxLen = 9223372036854775807 := rfl
 refine sr_ ?_
 refine om_ ?_
 refine nm_ [0] ?_
 refine sr_ ?_
 refine om_ ?_
 refine nm_ [0, 3] ?_
 refine CD.seq ?_
 refine sr_ ?_
 refine om_ ?_
 refine os_ ln_ ?_
 refine om_ ?_
 refine nm_ [3, 8, 9, 10] ?_
 refine CD.block ?_
 refine lp_ (fun (gh__ : Nat × List (List Tk) × Option Addr × Nat × List Blk) y__ => match gh__ with | (i, H, adh, cph, Sh) => (i ≤ l.length) ∧ (H = (l.take i).foldl stepO []) ∧ (exprL ((H).length : Int) (l.drop i) = 0) ∧ ((H).length ≤ i) ∧ ((H).flatten.length ≤ 5 * i) ∧ (OwnL 26 1 ((H).flatMap cK) (H).length adh cph Sh) ∧ y__ = (⟨90, [(3, .v (.slice adh (H).length cph)), (8, .list 5 (l.flatMap cO) l.length), (9, .v (.int .i64 (l.length : Nat))), (10, .v (.int .i64 (i : Nat)))], (Sh)⟩ : St)) (fun (gh__ : Nat × List (List Tk) × Option Addr × Nat × List Blk) => match gh__ with | (i, H, adh, cph, Sh) => l.length - i) (0, [], none, 0, []) ⟨(Nat.zero_le _), rfl, he, (Nat.le_refl _), (Nat.le_refl _), (OwnL.cast ownL_nil (by rfl)), rfl⟩ (Wk.asS rfl su_ (by repeat (first | exact trivial | refine ⟨(by (repeat (first | exact look_hit | (apply look_at; focus (first | rfl | (simp; done) | (congr 2; omega) | (apply row_eq; rw [hT]; rfl) | (apply row_eq; rfl) | (apply row_eq; simp; done))) | (apply look_miss; focus rfl))); done), ?_⟩))) ?_
 rintro ⟨i, H, adh, cph, Sh⟩ _ ⟨hi, hH, hx, hHi, hHf, hoh, rfl⟩
 refine sr_ ?_
 refine os_ bn_ ?_
 refine nm_ [3, 8, 9, 10, 11] ?_
 refine CD.seq ?_
 refine CD.cond ot (fun hc0 => ?_) (fun hc0 => ?_)
 ·have hc0' := hc0
  (try simp only [V.cnd, ne_eq] at hc0')
  have hlt : i < l.length := by simp at hc0; omega
  have hop := exprL_0 hlt hx
  obtain ⟨hk1, hk11, hlit, hpp⟩ := opErr_0 hop
  have hpb := pops_bd l[i].k
  have hl40 : l.length ≤ 40 := hl
  have hlow : lowO H l[i] ≤ H.length := Nat.sub_le _ _
  have hokv := lit_ok hlit (hr _ (List.getElem_mem hlt)).1 (hr _ (List.getElem_mem hlt)).2
  refine CD.skip ?_
  refine CD.seq ?_
  refine CD.block ?_
  refine sr_ ?_
  refine os_ (ix_ 5 (h := by first | exact .l (j := i) rfl hlt | exact .r (j := i) rfl hlt)) ?_
  refine os_ (la_ [_, _, _, _, _]) ?_
  refine OD.alloc (ds := [_, _, _, _, _]) wp_ rfl rfl zeroValue39 rfl (fun b5 => ?_)
  refine ot_ 0 [_, _, _, _, _] sizeOf39 ?_
  refine OD.wk (Wk.as_ (n := 90) (l' := [(3, _), (5, _), (8, _), (9, _), (10, _)]) (S' := (⟨b5, 39, 5, [_, _, _, _, _]⟩ :: Sh)) rfl rfl sl_) ?_
  refine OD.nil ?_
  refine sr_ ?_
  refine om_ ?_
  refine os_ ln_ ?_
  refine os_ (fa_ 0) ?_
  refine os_ (lb_ 0) ?_
  refine oc_ call81 (pops_vp l[i].k) ?_
  refine os_ (still_bin (r := .int .i64 (((lowO H l[i]) : Nat) : Int)) rfl ot ot (bin_sub (by rw [show ((H.length : Nat) : Int) - popsF l[i].k = (((lowO H l[i]) : Nat) : Int) by unfold lowO; omega]; exact wrap_i64 (by omega) (by omega)))) ?_
  refine om_ ?_
  refine OD.wk (Wk.as_ (n := 90) (l' := [(3, _), (5, _), (6, _), (8, _), (9, _), (10, _)]) (S' := (⟨b5, 39, 5, [_, _, _, _, _]⟩ :: Sh)) rfl rfl sl_) ?_
  refine OD.nil ?_
  refine sr_ ?_
  refine om_ ?_
  refine nm_ [3, 5, 6, 8, 9, 10] ?_
  refine CD.cut (fun y__ => ∃ (Tx : List Tk), ∃ (ad : Option Addr), ∃ (cp : Nat), ∃ (Sx : List Blk), (Tx = tokO l[i] (H.getD (lowO H l[i]) []) (H.getD (lowO H l[i] + 1) [])) ∧ (OwnL 26 1 (H.flatMap cK) H.length ad cp Sx) ∧ y__ = (⟨90, [(3, .v (.slice ad H.length cp)), (6, .v (.int .i64 ((lowO H l[i]) : Nat))), (7, .list 3 (Tx.flatMap cT) Tx.length), (8, .list 5 (l.flatMap cO) l.length), (9, .v (.int .i64 (l.length : Nat))), (10, .v (.int .i64 (i : Nat)))], Sx⟩ : St)) ?_ ?_
  ·skip
   refine sr_ ?_
   refine os_ (fa_ 0) ?_
   refine os_ (lb_ 0) ?_
   refine nm_ [3, 5, 6, 8, 9, 10, 21] ?_
   refine CD.block ?_
   refine sr_ ?_
   refine os_ bn_ ?_
   refine om_ ?_
   refine nm_ [3, 5, 6, 8, 9, 10, 21, 41] ?_
   refine CD.cond ot (fun hc1 => ?_) (fun hc1 => ?_)
   ·have hc1' := hc1
    (try simp only [V.cnd, ne_eq] at hc1')
    refine CD.region ?_
    refine os_ (fa_ 1) ?_
    refine os_ (lab_ 0 [_, _, _]) ?_
    refine oc_ call55 (showValue_vp l[i].v hokv) ?_
    refine om_ ?_
    refine OD.wk (Wk.as_ (n := 90) (l' := [(3, _), (6, _), (7, _), (8, _), (9, _), (10, _)]) (S' := (⟨b5, 39, 5, [_, _, _, _, _]⟩ :: Sh)) rfl rfl sl_) ?_
    refine OD.nil ?_
    refine ⟨_, ?_, showV l[i].v, adh, cph, Sh, (by unfold tokO; rw [if_pos hc1']), hoh, rfl⟩
    exact Wk.asS (n := 90) rfl sv_ sq_
   have hc1' := hc1
   (try simp only [V.cnd, ne_eq] at hc1')
   refine sr_ ?_
   refine os_ bn_ ?_
   refine om_ ?_
   refine nm_ [3, 5, 6, 8, 9, 10, 21, 46] ?_
   refine CD.cond ot (fun hc2 => ?_) (fun hc2 => ?_)
   ·have hc2' := hc2
    (try simp only [V.cnd, ne_eq] at hc2')
    refine CD.region ?_
    refine os_ (fa_ 4) ?_
    refine os_ (lb_ 0) ?_
    refine ob_ (numD 0 [_]) [.string ⟨#[]⟩] [_] zeroValue9 runUnderlying29 sizeOf9 (fun b50 => ?_)
    refine OD.perm (perm_q22 (S2 := [⟨b50, 9, 1 * 1, List.flatMap cS ([l[i].nm])⟩]) (A := [_])) ?_
    refine OD.giveL (t := 50) (Sq := [⟨b50, 9, 1 * 1, List.flatMap cS ([l[i].nm])⟩]) lk (ownL_row (g := cS) (sz := 1) (e := 9) (ls := [l[i].nm]) (Nat.le_refl _) (show 1 ≤ maxLen by decide)) (fm_len cS_len _) (perm_r22 (A := [_])) ?_
    refine oc_ call53 (all_vp [l[i].nm] (by show 1 ≤ 10; decide)) ?_
    refine om_ ?_
    refine OD.wk (Wk.as_ (n := 90) (l' := [(3, _), (6, _), (7, _), (8, _), (9, _), (10, _)]) (S' := (⟨b5, 39, 5, [_, _, _, _, _]⟩ :: Sh)) rfl rfl sl_) ?_
    refine OD.nil ?_
    refine ⟨_, ?_, [wordT l[i].nm], adh, cph, Sh, (by unfold tokO; rw [if_neg hc1', if_pos hc2']), hoh, rfl⟩
    exact Wk.asS (n := 90) rfl sv_ sq_
   have hc2' := hc2
   (try simp only [V.cnd, ne_eq] at hc2')
   refine sr_ ?_
   refine os_ bn_ ?_
   refine om_ ?_
   refine nm_ [3, 5, 6, 8, 9, 10, 21, 52] ?_
   refine CD.cond ot (fun hc3 => ?_) (fun hc3 => ?_)
   ·have hc3' := hc3
    (try simp only [V.cnd, ne_eq] at hc3')
    have hk5 : l[i].k = 5 := by simpa using hc3
    have hp1 : popsF l[i].k = 1 := by rw [hk5]; decide
    have hg1 := (getD_flat (h := H) (n := lowO H l[i])).1
    have hg2 := (getD_flat (h := H) (n := lowO H l[i])).2
    have hg3 := flat_take_drop H (lowO H l[i])
    have hpos : 0 < H.length := by omega
    obtain ⟨bh, hbh1, hch1, hch2, hSh⟩ := own_pos hoh hpos
    subst hbh1 hSh
    have hn0 : lowO H l[i] < H.length := by unfold lowO; omega
    rw [getD_at hn0] at hg1 hg2
    skip
    refine CD.mono (Q := fun e__ y__ => e__ = Exit.normal ∧ (True) ∧ Wk y__ (⟨90, [(3, .v (.slice (some ⟨bh, 0, none⟩) H.length cph)), (6, .v (.int .i64 ((lowO H l[i]) : Nat))), (7, .list 3 (([[markT ⟨#[40]⟩, wordT ⟨#[78, 79, 84]⟩], H[lowO H l[i]], [markT ⟨#[41]⟩]].flatten).flatMap cT) ([[markT ⟨#[40]⟩, wordT ⟨#[78, 79, 84]⟩], H[lowO H l[i]], [markT ⟨#[41]⟩]].flatten).length), (8, .list 5 (l.flatMap cO) l.length), (9, .v (.int .i64 l.length)), (10, .v (.int .i64 (i : Nat)))], [⟨b5, 39, 5, cO l[i]⟩, ⟨bh, 26, cph * 1, H.flatMap cK⟩]⟩ : St)) ?_ ?_
    ·skip
     refine CD.draw (bks _) kr_ (fun _ h => h) ?_
     refine a0_ 3 rfl mv_ ?_
     refine a0_ 4 rfl mv_ ?_
     refine a0_ 5 rfl (ix_ 1 (h := by first | exact .l (j := (lowO H l[i])) rfl (by first | exact hn0 | exact hn1) | exact .r (j := (lowO H l[i])) rfl (by first | exact hn0 | exact hn1))) ?_
     first | refine a0_ 6 rfl (still_r1 (mk := Op.load 26) rfl ot (by exact ld_row0 (k := 0) (i := (lowO H l[i])) cK_len rfl rfl rfl isAgg26 hn0 rfl)) ?_ | refine a0_ 6 rfl (still_r1 (mk := Op.load 26) rfl ot (by exact ld_row0 (k := 1) (i := (lowO H l[i])) cK_len rfl rfl rfl isAgg26 hn0 rfl)) ?_ | refine a0_ 6 rfl (still_r1 (mk := Op.load 26) rfl ot (by exact ld_row0 (k := 2) (i := (lowO H l[i])) cK_len rfl rfl rfl isAgg26 hn0 rfl)) ?_
     refine AD0.later rfl ?_
     refine AD.one (i := 0) kr_ ?_
     refine ac_ call58 (mark_vp ⟨#[40]⟩) ?_
     refine AD.one (i := 1) kr_ ?_
     refine ac_ call79 (word_vp ⟨#[78, 79, 84]⟩) ?_
     refine AD.two (i := 2) (j := 7) kr_ ?_ ?_
     ·skip
      refine ab_ (numD 0 [_, _]) [.int .i64 0, .string ⟨#[]⟩, .int .i64 0, .int .i64 0, .string ⟨#[]⟩, .int .i64 0] [_, _, _, _, _, _] zeroValue24 runUnderlying26 sizeOf24 (fun b56 => ?_)
      refine ag_ 0 56 3 2 ?_
      refine AD.one (i := 7) kr_ ?_
      refine ac_ call58 (mark_vp ⟨#[41]⟩) ?_
      refine AD.one (i := 8) kr_ ?_
      refine ab_ (numD 0 [_]) [.int .i64 0, .string ⟨#[]⟩, .int .i64 0] [_, _, _] zeroValue24 runUnderlying26 sizeOf24 (fun b62 => ?_)
      refine ag_ 0 62 3 1 ?_
      refine AD.one (i := 9) kr_ ?_
      refine ab_ (numD 0 [_, _, _]) [.slice none 0 0, .slice none 0 0, .slice none 0 0] [_, _, _] zeroValue26 runUnderlying97 sizeOf26 (fun b63 => ?_)
      refine ag_ 0 63 1 3 ?_
      refine AD.one (i := 10) kr_ ?_
      refine ac_ call57 (concat_vp ([[markT ⟨#[40]⟩, wordT ⟨#[78, 79, 84]⟩], H[lowO H l[i]], [markT ⟨#[41]⟩]]) (by show _ ≤ 1000; exact Nat.le_of_ble_eq_true rfl) (by simp only [List.flatten_cons, List.flatten_nil, List.length_append, List.length_cons, List.length_nil]; omega) (by simp only [List.flatten_cons, List.flatten_nil, List.length_append, List.length_cons, List.length_nil]; omega)) ?_
      refine a1_ 11 rfl mv_ ?_
      refine aw_ [(3, _), (6, _), (7, _), (8, _), (9, _), (10, _)] [⟨b5, 39, 5, [_, _, _, _, _]⟩, _] ?_
      refine AD.done kr_ ?_
      exact ⟨rfl, trivial, Wk.refl _⟩
     refine ac_ call58 (mark_vp ⟨#[41]⟩) ?_
     refine AD.two (i := 2) (j := 8) kr_ ?_ ?_
     ·skip
      refine ab_ (numD 0 [_, _]) [.int .i64 0, .string ⟨#[]⟩, .int .i64 0, .int .i64 0, .string ⟨#[]⟩, .int .i64 0] [_, _, _, _, _, _] zeroValue24 runUnderlying26 sizeOf24 (fun b56 => ?_)
      refine ag_ 0 56 3 2 ?_
      refine AD.one (i := 8) kr_ ?_
      refine ab_ (numD 0 [_]) [.int .i64 0, .string ⟨#[]⟩, .int .i64 0] [_, _, _] zeroValue24 runUnderlying26 sizeOf24 (fun b62 => ?_)
      refine ag_ 0 62 3 1 ?_
      refine AD.one (i := 9) kr_ ?_
      refine ab_ (numD 0 [_, _, _]) [.slice none 0 0, .slice none 0 0, .slice none 0 0] [_, _, _] zeroValue26 runUnderlying97 sizeOf26 (fun b63 => ?_)
      refine ag_ 0 63 1 3 ?_
      refine AD.one (i := 10) kr_ ?_
      refine ac_ call57 (concat_vp ([[markT ⟨#[40]⟩, wordT ⟨#[78, 79, 84]⟩], H[lowO H l[i]], [markT ⟨#[41]⟩]]) (by show _ ≤ 1000; exact Nat.le_of_ble_eq_true rfl) (by simp only [List.flatten_cons, List.flatten_nil, List.length_append, List.length_cons, List.length_nil]; omega) (by simp only [List.flatten_cons, List.flatten_nil, List.length_append, List.length_cons, List.length_nil]; omega)) ?_
      refine a1_ 11 rfl mv_ ?_
      refine aw_ [(3, _), (6, _), (7, _), (8, _), (9, _), (10, _)] [⟨b5, 39, 5, [_, _, _, _, _]⟩, _] ?_
      refine AD.done kr_ ?_
      exact ⟨rfl, trivial, Wk.refl _⟩
     refine ab_ (numD 0 [_]) [.int .i64 0, .string ⟨#[]⟩, .int .i64 0] [_, _, _] zeroValue24 runUnderlying26 sizeOf24 (fun b62 => ?_)
     refine ag_ 0 62 3 1 ?_
     refine AD.one (i := 2) kr_ ?_
     refine ab_ (numD 0 [_, _]) [.int .i64 0, .string ⟨#[]⟩, .int .i64 0, .int .i64 0, .string ⟨#[]⟩, .int .i64 0] [_, _, _, _, _, _] zeroValue24 runUnderlying26 sizeOf24 (fun b56 => ?_)
     refine ag_ 0 56 3 2 ?_
     refine AD.one (i := 9) kr_ ?_
     refine ab_ (numD 0 [_, _, _]) [.slice none 0 0, .slice none 0 0, .slice none 0 0] [_, _, _] zeroValue26 runUnderlying97 sizeOf26 (fun b63 => ?_)
     refine ag_ 0 63 1 3 ?_
     refine AD.one (i := 10) kr_ ?_
     refine ac_ call57 (concat_vp ([[markT ⟨#[40]⟩, wordT ⟨#[78, 79, 84]⟩], H[lowO H l[i]], [markT ⟨#[41]⟩]]) (by show _ ≤ 1000; exact Nat.le_of_ble_eq_true rfl) (by simp only [List.flatten_cons, List.flatten_nil, List.length_append, List.length_cons, List.length_nil]; omega) (by simp only [List.flatten_cons, List.flatten_nil, List.length_append, List.length_cons, List.length_nil]; omega)) ?_
     refine a1_ 11 rfl mv_ ?_
     refine aw_ [(3, _), (6, _), (7, _), (8, _), (9, _), (10, _)] [⟨b5, 39, 5, [_, _, _, _, _]⟩, _] ?_
     refine AD.done kr_ ?_
     exact ⟨rfl, trivial, Wk.refl _⟩
    rintro _ _ ⟨rfl, _, hwk__⟩
    refine ⟨_, ?_, [[markT ⟨#[40]⟩, wordT ⟨#[78, 79, 84]⟩], H[lowO H l[i]], [markT ⟨#[41]⟩]].flatten, (some ⟨bh, 0, none⟩), cph, [⟨bh, 26, cph * 1, H.flatMap cK⟩], (by unfold tokO; rw [if_neg hc1', if_neg hc2', if_pos hc3', getD_at hn0]), (ownL_row hch1 hch2), rfl⟩
    exact hwk__.trans (Wk.asS (n := 90) rfl sv_ sq_)
   have hc3' := hc3
   (try simp only [V.cnd, ne_eq] at hc3')
   refine sr_ ?_
   refine os_ bn_ ?_
   refine om_ ?_
   refine nm_ [3, 5, 6, 8, 9, 10, 65] ?_
   refine CD.cond ot (fun hc4 => ?_) (fun hc4 => ?_)
   ·have hc4' := hc4
    (try simp only [V.cnd, ne_eq] at hc4')
    have hke : l[i].k = 11 := by simpa using hc4
    have hp1 : popsF l[i].k = 1 := by rw [hke]; decide
    have hg1 := (getD_flat (h := H) (n := lowO H l[i])).1
    have hg2 := (getD_flat (h := H) (n := lowO H l[i])).2
    have hg3 := flat_take_drop H (lowO H l[i])
    have hpos : 0 < H.length := by omega
    obtain ⟨bh, hbh1, hch1, hch2, hSh⟩ := own_pos hoh hpos
    subst hbh1 hSh
    have hn0 : lowO H l[i] < H.length := by unfold lowO; omega
    rw [getD_at hn0] at hg1 hg2
    skip
    refine CD.mono (Q := fun e__ y__ => e__ = Exit.normal ∧ (True) ∧ Wk y__ (⟨90, [(3, .v (.slice (some ⟨bh, 0, none⟩) H.length cph)), (6, .v (.int .i64 ((lowO H l[i]) : Nat))), (7, .list 3 (([[markT ⟨#[40]⟩], H[lowO H l[i]], [wordT ⟨#[73, 83]⟩, wordT ⟨#[78, 85, 76, 76]⟩], [markT ⟨#[41]⟩]].flatten).flatMap cT) ([[markT ⟨#[40]⟩], H[lowO H l[i]], [wordT ⟨#[73, 83]⟩, wordT ⟨#[78, 85, 76, 76]⟩], [markT ⟨#[41]⟩]].flatten).length), (8, .list 5 (l.flatMap cO) l.length), (9, .v (.int .i64 l.length)), (10, .v (.int .i64 (i : Nat)))], [⟨b5, 39, 5, cO l[i]⟩, ⟨bh, 26, cph * 1, H.flatMap cK⟩]⟩ : St)) ?_ ?_
    ·skip
     refine CD.draw (bks _) kr_ (fun _ h => h) ?_
     refine a0_ 2 rfl mv_ ?_
     refine a0_ 3 rfl mv_ ?_
     refine a0_ 4 rfl (ix_ 1 (h := by first | exact .l (j := (lowO H l[i])) rfl (by first | exact hn0 | exact hn1) | exact .r (j := (lowO H l[i])) rfl (by first | exact hn0 | exact hn1))) ?_
     first | refine a0_ 5 rfl (still_r1 (mk := Op.load 26) rfl ot (by exact ld_row0 (k := 0) (i := (lowO H l[i])) cK_len rfl rfl rfl isAgg26 hn0 rfl)) ?_ | refine a0_ 5 rfl (still_r1 (mk := Op.load 26) rfl ot (by exact ld_row0 (k := 1) (i := (lowO H l[i])) cK_len rfl rfl rfl isAgg26 hn0 rfl)) ?_ | refine a0_ 5 rfl (still_r1 (mk := Op.load 26) rfl ot (by exact ld_row0 (k := 2) (i := (lowO H l[i])) cK_len rfl rfl rfl isAgg26 hn0 rfl)) ?_
     refine AD0.later rfl ?_
     refine AD.two (i := 0) (j := 6) kr_ ?_ ?_
     ·skip
      refine ac_ call58 (mark_vp ⟨#[40]⟩) ?_
      refine AD.two (i := 1) (j := 6) kr_ ?_ ?_
      ·skip
       refine ab_ (numD 0 [_]) [.int .i64 0, .string ⟨#[]⟩, .int .i64 0] [_, _, _] zeroValue24 runUnderlying26 sizeOf24 (fun b68 => ?_)
       refine ag_ 0 68 3 1 ?_
       refine AD.one (i := 6) kr_ ?_
       refine ab_ (numD 0 [_, _]) [.string ⟨#[]⟩, .string ⟨#[]⟩] [_, _] zeroValue9 runUnderlying29 sizeOf9 (fun b73 => ?_)
       refine ag_ 0 73 1 2 ?_
       refine AD.one (i := 7) kr_ ?_
       refine ac_ call53 (all_vp [⟨#[73, 83]⟩, ⟨#[78, 85, 76, 76]⟩] (by show 2 ≤ 10; decide)) ?_
       refine AD.one (i := 8) kr_ ?_
       refine ac_ call58 (mark_vp ⟨#[41]⟩) ?_
       refine AD.one (i := 9) kr_ ?_
       refine ab_ (numD 0 [_]) [.int .i64 0, .string ⟨#[]⟩, .int .i64 0] [_, _, _] zeroValue24 runUnderlying26 sizeOf24 (fun b76 => ?_)
       refine ag_ 0 76 3 1 ?_
       refine AD.one (i := 10) kr_ ?_
       refine ab_ (numD 0 [_, _, _, _]) [.slice none 0 0, .slice none 0 0, .slice none 0 0, .slice none 0 0] [_, _, _, _] zeroValue26 runUnderlying97 sizeOf26 (fun b77 => ?_)
       refine ag_ 0 77 1 4 ?_
       refine AD.one (i := 11) kr_ ?_
       refine ac_ call57 (concat_vp ([[markT ⟨#[40]⟩], H[lowO H l[i]], [wordT ⟨#[73, 83]⟩, wordT ⟨#[78, 85, 76, 76]⟩], [markT ⟨#[41]⟩]]) (by show _ ≤ 1000; exact Nat.le_of_ble_eq_true rfl) (by simp only [List.flatten_cons, List.flatten_nil, List.length_append, List.length_cons, List.length_nil]; omega) (by simp only [List.flatten_cons, List.flatten_nil, List.length_append, List.length_cons, List.length_nil]; omega)) ?_
       refine a1_ 12 rfl mv_ ?_
       refine aw_ [(3, _), (6, _), (7, _), (8, _), (9, _), (10, _)] [⟨b5, 39, 5, [_, _, _, _, _]⟩, _] ?_
       refine AD.done kr_ ?_
       exact ⟨rfl, trivial, Wk.refl _⟩
      refine ab_ (numD 0 [_, _]) [.string ⟨#[]⟩, .string ⟨#[]⟩] [_, _] zeroValue9 runUnderlying29 sizeOf9 (fun b73 => ?_)
      refine ag_ 0 73 1 2 ?_
      refine AD.two (i := 1) (j := 7) kr_ ?_ ?_
      ·skip
       refine ab_ (numD 0 [_]) [.int .i64 0, .string ⟨#[]⟩, .int .i64 0] [_, _, _] zeroValue24 runUnderlying26 sizeOf24 (fun b68 => ?_)
       refine ag_ 0 68 3 1 ?_
       refine AD.one (i := 7) kr_ ?_
       refine ac_ call53 (all_vp [⟨#[73, 83]⟩, ⟨#[78, 85, 76, 76]⟩] (by show 2 ≤ 10; decide)) ?_
       refine AD.one (i := 8) kr_ ?_
       refine ac_ call58 (mark_vp ⟨#[41]⟩) ?_
       refine AD.one (i := 9) kr_ ?_
       refine ab_ (numD 0 [_]) [.int .i64 0, .string ⟨#[]⟩, .int .i64 0] [_, _, _] zeroValue24 runUnderlying26 sizeOf24 (fun b76 => ?_)
       refine ag_ 0 76 3 1 ?_
       refine AD.one (i := 10) kr_ ?_
       refine ab_ (numD 0 [_, _, _, _]) [.slice none 0 0, .slice none 0 0, .slice none 0 0, .slice none 0 0] [_, _, _, _] zeroValue26 runUnderlying97 sizeOf26 (fun b77 => ?_)
       refine ag_ 0 77 1 4 ?_
       refine AD.one (i := 11) kr_ ?_
       refine ac_ call57 (concat_vp ([[markT ⟨#[40]⟩], H[lowO H l[i]], [wordT ⟨#[73, 83]⟩, wordT ⟨#[78, 85, 76, 76]⟩], [markT ⟨#[41]⟩]]) (by show _ ≤ 1000; exact Nat.le_of_ble_eq_true rfl) (by simp only [List.flatten_cons, List.flatten_nil, List.length_append, List.length_cons, List.length_nil]; omega) (by simp only [List.flatten_cons, List.flatten_nil, List.length_append, List.length_cons, List.length_nil]; omega)) ?_
       refine a1_ 12 rfl mv_ ?_
       refine aw_ [(3, _), (6, _), (7, _), (8, _), (9, _), (10, _)] [⟨b5, 39, 5, [_, _, _, _, _]⟩, _] ?_
       refine AD.done kr_ ?_
       exact ⟨rfl, trivial, Wk.refl _⟩
      refine ac_ call53 (all_vp [⟨#[73, 83]⟩, ⟨#[78, 85, 76, 76]⟩] (by show 2 ≤ 10; decide)) ?_
      refine AD.two (i := 1) (j := 8) kr_ ?_ ?_
      ·skip
       refine ab_ (numD 0 [_]) [.int .i64 0, .string ⟨#[]⟩, .int .i64 0] [_, _, _] zeroValue24 runUnderlying26 sizeOf24 (fun b68 => ?_)
       refine ag_ 0 68 3 1 ?_
       refine AD.one (i := 8) kr_ ?_
       refine ac_ call58 (mark_vp ⟨#[41]⟩) ?_
       refine AD.one (i := 9) kr_ ?_
       refine ab_ (numD 0 [_]) [.int .i64 0, .string ⟨#[]⟩, .int .i64 0] [_, _, _] zeroValue24 runUnderlying26 sizeOf24 (fun b76 => ?_)
       refine ag_ 0 76 3 1 ?_
       refine AD.one (i := 10) kr_ ?_
       refine ab_ (numD 0 [_, _, _, _]) [.slice none 0 0, .slice none 0 0, .slice none 0 0, .slice none 0 0] [_, _, _, _] zeroValue26 runUnderlying97 sizeOf26 (fun b77 => ?_)
       refine ag_ 0 77 1 4 ?_
       refine AD.one (i := 11) kr_ ?_
       refine ac_ call57 (concat_vp ([[markT ⟨#[40]⟩], H[lowO H l[i]], [wordT ⟨#[73, 83]⟩, wordT ⟨#[78, 85, 76, 76]⟩], [markT ⟨#[41]⟩]]) (by show _ ≤ 1000; exact Nat.le_of_ble_eq_true rfl) (by simp only [List.flatten_cons, List.flatten_nil, List.length_append, List.length_cons, List.length_nil]; omega) (by simp only [List.flatten_cons, List.flatten_nil, List.length_append, List.length_cons, List.length_nil]; omega)) ?_
       refine a1_ 12 rfl mv_ ?_
       refine aw_ [(3, _), (6, _), (7, _), (8, _), (9, _), (10, _)] [⟨b5, 39, 5, [_, _, _, _, _]⟩, _] ?_
       refine AD.done kr_ ?_
       exact ⟨rfl, trivial, Wk.refl _⟩
      refine ac_ call58 (mark_vp ⟨#[41]⟩) ?_
      refine AD.two (i := 1) (j := 9) kr_ ?_ ?_
      ·skip
       refine ab_ (numD 0 [_]) [.int .i64 0, .string ⟨#[]⟩, .int .i64 0] [_, _, _] zeroValue24 runUnderlying26 sizeOf24 (fun b68 => ?_)
       refine ag_ 0 68 3 1 ?_
       refine AD.one (i := 9) kr_ ?_
       refine ab_ (numD 0 [_]) [.int .i64 0, .string ⟨#[]⟩, .int .i64 0] [_, _, _] zeroValue24 runUnderlying26 sizeOf24 (fun b76 => ?_)
       refine ag_ 0 76 3 1 ?_
       refine AD.one (i := 10) kr_ ?_
       refine ab_ (numD 0 [_, _, _, _]) [.slice none 0 0, .slice none 0 0, .slice none 0 0, .slice none 0 0] [_, _, _, _] zeroValue26 runUnderlying97 sizeOf26 (fun b77 => ?_)
       refine ag_ 0 77 1 4 ?_
       refine AD.one (i := 11) kr_ ?_
       refine ac_ call57 (concat_vp ([[markT ⟨#[40]⟩], H[lowO H l[i]], [wordT ⟨#[73, 83]⟩, wordT ⟨#[78, 85, 76, 76]⟩], [markT ⟨#[41]⟩]]) (by show _ ≤ 1000; exact Nat.le_of_ble_eq_true rfl) (by simp only [List.flatten_cons, List.flatten_nil, List.length_append, List.length_cons, List.length_nil]; omega) (by simp only [List.flatten_cons, List.flatten_nil, List.length_append, List.length_cons, List.length_nil]; omega)) ?_
       refine a1_ 12 rfl mv_ ?_
       refine aw_ [(3, _), (6, _), (7, _), (8, _), (9, _), (10, _)] [⟨b5, 39, 5, [_, _, _, _, _]⟩, _] ?_
       refine AD.done kr_ ?_
       exact ⟨rfl, trivial, Wk.refl _⟩
      refine ab_ (numD 0 [_]) [.int .i64 0, .string ⟨#[]⟩, .int .i64 0] [_, _, _] zeroValue24 runUnderlying26 sizeOf24 (fun b76 => ?_)
      refine ag_ 0 76 3 1 ?_
      refine AD.one (i := 1) kr_ ?_
      refine ab_ (numD 0 [_]) [.int .i64 0, .string ⟨#[]⟩, .int .i64 0] [_, _, _] zeroValue24 runUnderlying26 sizeOf24 (fun b68 => ?_)
      refine ag_ 0 68 3 1 ?_
      refine AD.one (i := 10) kr_ ?_
      refine ab_ (numD 0 [_, _, _, _]) [.slice none 0 0, .slice none 0 0, .slice none 0 0, .slice none 0 0] [_, _, _, _] zeroValue26 runUnderlying97 sizeOf26 (fun b77 => ?_)
      refine ag_ 0 77 1 4 ?_
      refine AD.one (i := 11) kr_ ?_
      refine ac_ call57 (concat_vp ([[markT ⟨#[40]⟩], H[lowO H l[i]], [wordT ⟨#[73, 83]⟩, wordT ⟨#[78, 85, 76, 76]⟩], [markT ⟨#[41]⟩]]) (by show _ ≤ 1000; exact Nat.le_of_ble_eq_true rfl) (by simp only [List.flatten_cons, List.flatten_nil, List.length_append, List.length_cons, List.length_nil]; omega) (by simp only [List.flatten_cons, List.flatten_nil, List.length_append, List.length_cons, List.length_nil]; omega)) ?_
      refine a1_ 12 rfl mv_ ?_
      refine aw_ [(3, _), (6, _), (7, _), (8, _), (9, _), (10, _)] [⟨b5, 39, 5, [_, _, _, _, _]⟩, _] ?_
      refine AD.done kr_ ?_
      exact ⟨rfl, trivial, Wk.refl _⟩
     refine ab_ (numD 0 [_, _]) [.string ⟨#[]⟩, .string ⟨#[]⟩] [_, _] zeroValue9 runUnderlying29 sizeOf9 (fun b73 => ?_)
     refine ag_ 0 73 1 2 ?_
     refine AD.one (i := 0) kr_ ?_
     refine ac_ call58 (mark_vp ⟨#[40]⟩) ?_
     refine AD.two (i := 1) (j := 7) kr_ ?_ ?_
     ·skip
      refine ab_ (numD 0 [_]) [.int .i64 0, .string ⟨#[]⟩, .int .i64 0] [_, _, _] zeroValue24 runUnderlying26 sizeOf24 (fun b68 => ?_)
      refine ag_ 0 68 3 1 ?_
      refine AD.one (i := 7) kr_ ?_
      refine ac_ call53 (all_vp [⟨#[73, 83]⟩, ⟨#[78, 85, 76, 76]⟩] (by show 2 ≤ 10; decide)) ?_
      refine AD.one (i := 8) kr_ ?_
      refine ac_ call58 (mark_vp ⟨#[41]⟩) ?_
      refine AD.one (i := 9) kr_ ?_
      refine ab_ (numD 0 [_]) [.int .i64 0, .string ⟨#[]⟩, .int .i64 0] [_, _, _] zeroValue24 runUnderlying26 sizeOf24 (fun b76 => ?_)
      refine ag_ 0 76 3 1 ?_
      refine AD.one (i := 10) kr_ ?_
      refine ab_ (numD 0 [_, _, _, _]) [.slice none 0 0, .slice none 0 0, .slice none 0 0, .slice none 0 0] [_, _, _, _] zeroValue26 runUnderlying97 sizeOf26 (fun b77 => ?_)
      refine ag_ 0 77 1 4 ?_
      refine AD.one (i := 11) kr_ ?_
      refine ac_ call57 (concat_vp ([[markT ⟨#[40]⟩], H[lowO H l[i]], [wordT ⟨#[73, 83]⟩, wordT ⟨#[78, 85, 76, 76]⟩], [markT ⟨#[41]⟩]]) (by show _ ≤ 1000; exact Nat.le_of_ble_eq_true rfl) (by simp only [List.flatten_cons, List.flatten_nil, List.length_append, List.length_cons, List.length_nil]; omega) (by simp only [List.flatten_cons, List.flatten_nil, List.length_append, List.length_cons, List.length_nil]; omega)) ?_
      refine a1_ 12 rfl mv_ ?_
      refine aw_ [(3, _), (6, _), (7, _), (8, _), (9, _), (10, _)] [⟨b5, 39, 5, [_, _, _, _, _]⟩, _] ?_
      refine AD.done kr_ ?_
      exact ⟨rfl, trivial, Wk.refl _⟩
     refine ac_ call53 (all_vp [⟨#[73, 83]⟩, ⟨#[78, 85, 76, 76]⟩] (by show 2 ≤ 10; decide)) ?_
     refine AD.two (i := 1) (j := 8) kr_ ?_ ?_
     ·skip
      refine ab_ (numD 0 [_]) [.int .i64 0, .string ⟨#[]⟩, .int .i64 0] [_, _, _] zeroValue24 runUnderlying26 sizeOf24 (fun b68 => ?_)
      refine ag_ 0 68 3 1 ?_
      refine AD.one (i := 8) kr_ ?_
      refine ac_ call58 (mark_vp ⟨#[41]⟩) ?_
      refine AD.one (i := 9) kr_ ?_
      refine ab_ (numD 0 [_]) [.int .i64 0, .string ⟨#[]⟩, .int .i64 0] [_, _, _] zeroValue24 runUnderlying26 sizeOf24 (fun b76 => ?_)
      refine ag_ 0 76 3 1 ?_
      refine AD.one (i := 10) kr_ ?_
      refine ab_ (numD 0 [_, _, _, _]) [.slice none 0 0, .slice none 0 0, .slice none 0 0, .slice none 0 0] [_, _, _, _] zeroValue26 runUnderlying97 sizeOf26 (fun b77 => ?_)
      refine ag_ 0 77 1 4 ?_
      refine AD.one (i := 11) kr_ ?_
      refine ac_ call57 (concat_vp ([[markT ⟨#[40]⟩], H[lowO H l[i]], [wordT ⟨#[73, 83]⟩, wordT ⟨#[78, 85, 76, 76]⟩], [markT ⟨#[41]⟩]]) (by show _ ≤ 1000; exact Nat.le_of_ble_eq_true rfl) (by simp only [List.flatten_cons, List.flatten_nil, List.length_append, List.length_cons, List.length_nil]; omega) (by simp only [List.flatten_cons, List.flatten_nil, List.length_append, List.length_cons, List.length_nil]; omega)) ?_
      refine a1_ 12 rfl mv_ ?_
      refine aw_ [(3, _), (6, _), (7, _), (8, _), (9, _), (10, _)] [⟨b5, 39, 5, [_, _, _, _, _]⟩, _] ?_
      refine AD.done kr_ ?_
      exact ⟨rfl, trivial, Wk.refl _⟩
     refine ac_ call58 (mark_vp ⟨#[41]⟩) ?_
     refine AD.two (i := 1) (j := 9) kr_ ?_ ?_
     ·skip
      refine ab_ (numD 0 [_]) [.int .i64 0, .string ⟨#[]⟩, .int .i64 0] [_, _, _] zeroValue24 runUnderlying26 sizeOf24 (fun b68 => ?_)
      refine ag_ 0 68 3 1 ?_
      refine AD.one (i := 9) kr_ ?_
      refine ab_ (numD 0 [_]) [.int .i64 0, .string ⟨#[]⟩, .int .i64 0] [_, _, _] zeroValue24 runUnderlying26 sizeOf24 (fun b76 => ?_)
      refine ag_ 0 76 3 1 ?_
      refine AD.one (i := 10) kr_ ?_
      refine ab_ (numD 0 [_, _, _, _]) [.slice none 0 0, .slice none 0 0, .slice none 0 0, .slice none 0 0] [_, _, _, _] zeroValue26 runUnderlying97 sizeOf26 (fun b77 => ?_)
      refine ag_ 0 77 1 4 ?_
      refine AD.one (i := 11) kr_ ?_
      refine ac_ call57 (concat_vp ([[markT ⟨#[40]⟩], H[lowO H l[i]], [wordT ⟨#[73, 83]⟩, wordT ⟨#[78, 85, 76, 76]⟩], [markT ⟨#[41]⟩]]) (by show _ ≤ 1000; exact Nat.le_of_ble_eq_true rfl) (by simp only [List.flatten_cons, List.flatten_nil, List.length_append, List.length_cons, List.length_nil]; omega) (by simp only [List.flatten_cons, List.flatten_nil, List.length_append, List.length_cons, List.length_nil]; omega)) ?_
      refine a1_ 12 rfl mv_ ?_
      refine aw_ [(3, _), (6, _), (7, _), (8, _), (9, _), (10, _)] [⟨b5, 39, 5, [_, _, _, _, _]⟩, _] ?_
      refine AD.done kr_ ?_
      exact ⟨rfl, trivial, Wk.refl _⟩
     refine ab_ (numD 0 [_]) [.int .i64 0, .string ⟨#[]⟩, .int .i64 0] [_, _, _] zeroValue24 runUnderlying26 sizeOf24 (fun b76 => ?_)
     refine ag_ 0 76 3 1 ?_
     refine AD.one (i := 1) kr_ ?_
     refine ab_ (numD 0 [_]) [.int .i64 0, .string ⟨#[]⟩, .int .i64 0] [_, _, _] zeroValue24 runUnderlying26 sizeOf24 (fun b68 => ?_)
     refine ag_ 0 68 3 1 ?_
     refine AD.one (i := 10) kr_ ?_
     refine ab_ (numD 0 [_, _, _, _]) [.slice none 0 0, .slice none 0 0, .slice none 0 0, .slice none 0 0] [_, _, _, _] zeroValue26 runUnderlying97 sizeOf26 (fun b77 => ?_)
     refine ag_ 0 77 1 4 ?_
     refine AD.one (i := 11) kr_ ?_
     refine ac_ call57 (concat_vp ([[markT ⟨#[40]⟩], H[lowO H l[i]], [wordT ⟨#[73, 83]⟩, wordT ⟨#[78, 85, 76, 76]⟩], [markT ⟨#[41]⟩]]) (by show _ ≤ 1000; exact Nat.le_of_ble_eq_true rfl) (by simp only [List.flatten_cons, List.flatten_nil, List.length_append, List.length_cons, List.length_nil]; omega) (by simp only [List.flatten_cons, List.flatten_nil, List.length_append, List.length_cons, List.length_nil]; omega)) ?_
     refine a1_ 12 rfl mv_ ?_
     refine aw_ [(3, _), (6, _), (7, _), (8, _), (9, _), (10, _)] [⟨b5, 39, 5, [_, _, _, _, _]⟩, _] ?_
     refine AD.done kr_ ?_
     exact ⟨rfl, trivial, Wk.refl _⟩
    rintro _ _ ⟨rfl, _, hwk__⟩
    refine ⟨_, ?_, [[markT ⟨#[40]⟩], H[lowO H l[i]], [wordT ⟨#[73, 83]⟩, wordT ⟨#[78, 85, 76, 76]⟩], [markT ⟨#[41]⟩]].flatten, (some ⟨bh, 0, none⟩), cph, [⟨bh, 26, cph * 1, H.flatMap cK⟩], (by unfold tokO; rw [if_neg hc1', if_neg hc2', if_neg hc3', if_pos hc4', getD_at hn0]), (ownL_row hch1 hch2), rfl⟩
    exact hwk__.trans (Wk.asS (n := 90) rfl sv_ sq_)
   have hc4' := hc4
   (try simp only [V.cnd, ne_eq] at hc4')
   have hkb : ¬ l[i].k = 1 ∧ ¬ l[i].k = 2 ∧ ¬ l[i].k = 5 ∧ ¬ l[i].k = 11 := ⟨by simpa using hc1, by simpa using hc2, by simpa using hc3, by simpa using hc4⟩
   have hp2 : popsF l[i].k = 2 := by unfold popsF; rw [if_neg (by omega), if_neg (by omega)]
   have hg1 := (getD_flat (h := H) (n := lowO H l[i])).1
   have hg2 := (getD_flat (h := H) (n := lowO H l[i])).2
   have hg3 := flat_take_drop H (lowO H l[i])
   have hpos : 0 < H.length := by omega
   obtain ⟨bh, hbh1, hch1, hch2, hSh⟩ := own_pos hoh hpos
   subst hbh1 hSh
   have hn0 : lowO H l[i] < H.length := by unfold lowO; omega
   have hn1 : lowO H l[i] + 1 < H.length := by unfold lowO; omega
   rw [getD_at hn0, getD_at hn1] at hg2
   rw [getD_at hn0] at hg1
   refine CD.mono (Q := fun e__ y__ => e__ = Exit.normal ∧ (True) ∧ Wk y__ (⟨90, [(3, .v (.slice (some ⟨bh, 0, none⟩) H.length cph)), (6, .v (.int .i64 ((lowO H l[i]) : Nat))), (7, .list 3 (([[markT ⟨#[40]⟩], H[lowO H l[i]], [betT l[i].k], H[lowO H l[i] + 1], [markT ⟨#[41]⟩]].flatten).flatMap cT) ([[markT ⟨#[40]⟩], H[lowO H l[i]], [betT l[i].k], H[lowO H l[i] + 1], [markT ⟨#[41]⟩]].flatten).length), (8, .list 5 (l.flatMap cO) l.length), (9, .v (.int .i64 l.length)), (10, .v (.int .i64 (i : Nat)))], [⟨b5, 39, 5, cO l[i]⟩, ⟨bh, 26, cph * 1, H.flatMap cK⟩]⟩ : St)) ?_ ?_
   ·skip
    refine CD.draw (bks _) kr_ (fun _ h => h) ?_
    refine a0_ 2 rfl mv_ ?_
    refine a0_ 3 rfl mv_ ?_
    refine a0_ 4 rfl (ix_ 1 (h := by first | exact .l (j := (lowO H l[i])) rfl (by first | exact hn0 | exact hn1) | exact .r (j := (lowO H l[i])) rfl (by first | exact hn0 | exact hn1))) ?_
    first | refine a0_ 5 rfl (still_r1 (mk := Op.load 26) rfl ot (by exact ld_row0 (k := 0) (i := (lowO H l[i])) cK_len rfl rfl rfl isAgg26 hn0 rfl)) ?_ | refine a0_ 5 rfl (still_r1 (mk := Op.load 26) rfl ot (by exact ld_row0 (k := 1) (i := (lowO H l[i])) cK_len rfl rfl rfl isAgg26 hn0 rfl)) ?_ | refine a0_ 5 rfl (still_r1 (mk := Op.load 26) rfl ot (by exact ld_row0 (k := 2) (i := (lowO H l[i])) cK_len rfl rfl rfl isAgg26 hn0 rfl)) ?_
    refine a0_ 6 rfl (fa_ 0) ?_
    refine a0_ 7 rfl (lb_ 0) ?_
    refine a0_ 10 rfl mv_ ?_
    refine a0_ 11 rfl mv_ ?_
    refine a0_ 12 rfl (still_bin (r := .int .i64 ((((lowO H l[i]) + 1 : Nat)) : Int)) rfl ot opd_const (bin_add (by rw [show (((lowO H l[i]) : Nat) : Int) + 1 = (((lowO H l[i]) + 1 : Nat) : Int) by omega]; exact wrap_i64 (by omega) (by omega)))) ?_
    refine a0_ 13 rfl (ix_ 1 (h := by first | exact .l (j := ((lowO H l[i]) + 1)) rfl (by first | exact hn0 | exact hn1) | exact .r (j := ((lowO H l[i]) + 1)) rfl (by first | exact hn0 | exact hn1))) ?_
    first | refine a0_ 14 rfl (still_r1 (mk := Op.load 26) rfl ot (by exact ld_row0 (k := 0) (i := ((lowO H l[i]) + 1)) cK_len rfl rfl rfl isAgg26 hn1 rfl)) ?_ | refine a0_ 14 rfl (still_r1 (mk := Op.load 26) rfl ot (by exact ld_row0 (k := 1) (i := ((lowO H l[i]) + 1)) cK_len rfl rfl rfl isAgg26 hn1 rfl)) ?_ | refine a0_ 14 rfl (still_r1 (mk := Op.load 26) rfl ot (by exact ld_row0 (k := 2) (i := ((lowO H l[i]) + 1)) cK_len rfl rfl rfl isAgg26 hn1 rfl)) ?_
    refine AD0.later rfl ?_
    refine AD.one (i := 0) kr_ ?_
    refine ac_ call58 (mark_vp ⟨#[40]⟩) ?_
    refine AD.two (i := 1) (j := 8) kr_ ?_ ?_
    ·skip
     refine ab_ (numD 0 [_]) [.int .i64 0, .string ⟨#[]⟩, .int .i64 0] [_, _, _] zeroValue24 runUnderlying26 sizeOf24 (fun b23 => ?_)
     refine ag_ 0 23 3 1 ?_
     refine AD.one (i := 8) kr_ ?_
     refine ac_ call82 (between_vp l[i].k (by omega)) ?_
     refine AD.two (i := 9) (j := 15) kr_ ?_ ?_
     ·skip
      refine ab_ (numD 0 [_]) [.int .i64 0, .string ⟨#[]⟩, .int .i64 0] [_, _, _] zeroValue24 runUnderlying26 sizeOf24 (fun b31 => ?_)
      refine ag_ 0 31 3 1 ?_
      refine AD.one (i := 15) kr_ ?_
      refine ac_ call58 (mark_vp ⟨#[41]⟩) ?_
      refine AD.one (i := 16) kr_ ?_
      refine ab_ (numD 0 [_]) [.int .i64 0, .string ⟨#[]⟩, .int .i64 0] [_, _, _] zeroValue24 runUnderlying26 sizeOf24 (fun b38 => ?_)
      refine ag_ 0 38 3 1 ?_
      refine AD.one (i := 17) kr_ ?_
      refine ab_ (numD 0 [_, _, _, _, _]) [.slice none 0 0, .slice none 0 0, .slice none 0 0, .slice none 0 0, .slice none 0 0] [_, _, _, _, _] zeroValue26 runUnderlying97 sizeOf26 (fun b39 => ?_)
      refine ag_ 0 39 1 5 ?_
      refine AD.one (i := 18) kr_ ?_
      refine ac_ call57 (concat_vp ([[markT ⟨#[40]⟩], H[lowO H l[i]], [betT l[i].k], H[lowO H l[i] + 1], [markT ⟨#[41]⟩]]) (by show _ ≤ 1000; exact Nat.le_of_ble_eq_true rfl) (by simp only [List.flatten_cons, List.flatten_nil, List.length_append, List.length_cons, List.length_nil]; omega) (by simp only [List.flatten_cons, List.flatten_nil, List.length_append, List.length_cons, List.length_nil]; omega)) ?_
      refine a1_ 19 rfl mv_ ?_
      refine aw_ [(3, _), (6, _), (7, _), (8, _), (9, _), (10, _)] [⟨b5, 39, 5, [_, _, _, _, _]⟩, _] ?_
      refine AD.done kr_ ?_
      exact ⟨rfl, trivial, Wk.refl _⟩
     refine ac_ call58 (mark_vp ⟨#[41]⟩) ?_
     refine AD.two (i := 9) (j := 16) kr_ ?_ ?_
     ·skip
      refine ab_ (numD 0 [_]) [.int .i64 0, .string ⟨#[]⟩, .int .i64 0] [_, _, _] zeroValue24 runUnderlying26 sizeOf24 (fun b31 => ?_)
      refine ag_ 0 31 3 1 ?_
      refine AD.one (i := 16) kr_ ?_
      refine ab_ (numD 0 [_]) [.int .i64 0, .string ⟨#[]⟩, .int .i64 0] [_, _, _] zeroValue24 runUnderlying26 sizeOf24 (fun b38 => ?_)
      refine ag_ 0 38 3 1 ?_
      refine AD.one (i := 17) kr_ ?_
      refine ab_ (numD 0 [_, _, _, _, _]) [.slice none 0 0, .slice none 0 0, .slice none 0 0, .slice none 0 0, .slice none 0 0] [_, _, _, _, _] zeroValue26 runUnderlying97 sizeOf26 (fun b39 => ?_)
      refine ag_ 0 39 1 5 ?_
      refine AD.one (i := 18) kr_ ?_
      refine ac_ call57 (concat_vp ([[markT ⟨#[40]⟩], H[lowO H l[i]], [betT l[i].k], H[lowO H l[i] + 1], [markT ⟨#[41]⟩]]) (by show _ ≤ 1000; exact Nat.le_of_ble_eq_true rfl) (by simp only [List.flatten_cons, List.flatten_nil, List.length_append, List.length_cons, List.length_nil]; omega) (by simp only [List.flatten_cons, List.flatten_nil, List.length_append, List.length_cons, List.length_nil]; omega)) ?_
      refine a1_ 19 rfl mv_ ?_
      refine aw_ [(3, _), (6, _), (7, _), (8, _), (9, _), (10, _)] [⟨b5, 39, 5, [_, _, _, _, _]⟩, _] ?_
      refine AD.done kr_ ?_
      exact ⟨rfl, trivial, Wk.refl _⟩
     refine ab_ (numD 0 [_]) [.int .i64 0, .string ⟨#[]⟩, .int .i64 0] [_, _, _] zeroValue24 runUnderlying26 sizeOf24 (fun b38 => ?_)
     refine ag_ 0 38 3 1 ?_
     refine AD.one (i := 9) kr_ ?_
     refine ab_ (numD 0 [_]) [.int .i64 0, .string ⟨#[]⟩, .int .i64 0] [_, _, _] zeroValue24 runUnderlying26 sizeOf24 (fun b31 => ?_)
     refine ag_ 0 31 3 1 ?_
     refine AD.one (i := 17) kr_ ?_
     refine ab_ (numD 0 [_, _, _, _, _]) [.slice none 0 0, .slice none 0 0, .slice none 0 0, .slice none 0 0, .slice none 0 0] [_, _, _, _, _] zeroValue26 runUnderlying97 sizeOf26 (fun b39 => ?_)
     refine ag_ 0 39 1 5 ?_
     refine AD.one (i := 18) kr_ ?_
     refine ac_ call57 (concat_vp ([[markT ⟨#[40]⟩], H[lowO H l[i]], [betT l[i].k], H[lowO H l[i] + 1], [markT ⟨#[41]⟩]]) (by show _ ≤ 1000; exact Nat.le_of_ble_eq_true rfl) (by simp only [List.flatten_cons, List.flatten_nil, List.length_append, List.length_cons, List.length_nil]; omega) (by simp only [List.flatten_cons, List.flatten_nil, List.length_append, List.length_cons, List.length_nil]; omega)) ?_
     refine a1_ 19 rfl mv_ ?_
     refine aw_ [(3, _), (6, _), (7, _), (8, _), (9, _), (10, _)] [⟨b5, 39, 5, [_, _, _, _, _]⟩, _] ?_
     refine AD.done kr_ ?_
     exact ⟨rfl, trivial, Wk.refl _⟩
    refine ac_ call82 (between_vp l[i].k (by omega)) ?_
    refine AD.three (i := 1) (j := 9) (k := 15) kr_ ?_ ?_ ?_
    ·skip
     refine ab_ (numD 0 [_]) [.int .i64 0, .string ⟨#[]⟩, .int .i64 0] [_, _, _] zeroValue24 runUnderlying26 sizeOf24 (fun b23 => ?_)
     refine ag_ 0 23 3 1 ?_
     refine AD.two (i := 9) (j := 15) kr_ ?_ ?_
     ·skip
      refine ab_ (numD 0 [_]) [.int .i64 0, .string ⟨#[]⟩, .int .i64 0] [_, _, _] zeroValue24 runUnderlying26 sizeOf24 (fun b31 => ?_)
      refine ag_ 0 31 3 1 ?_
      refine AD.one (i := 15) kr_ ?_
      refine ac_ call58 (mark_vp ⟨#[41]⟩) ?_
      refine AD.one (i := 16) kr_ ?_
      refine ab_ (numD 0 [_]) [.int .i64 0, .string ⟨#[]⟩, .int .i64 0] [_, _, _] zeroValue24 runUnderlying26 sizeOf24 (fun b38 => ?_)
      refine ag_ 0 38 3 1 ?_
      refine AD.one (i := 17) kr_ ?_
      refine ab_ (numD 0 [_, _, _, _, _]) [.slice none 0 0, .slice none 0 0, .slice none 0 0, .slice none 0 0, .slice none 0 0] [_, _, _, _, _] zeroValue26 runUnderlying97 sizeOf26 (fun b39 => ?_)
      refine ag_ 0 39 1 5 ?_
      refine AD.one (i := 18) kr_ ?_
      refine ac_ call57 (concat_vp ([[markT ⟨#[40]⟩], H[lowO H l[i]], [betT l[i].k], H[lowO H l[i] + 1], [markT ⟨#[41]⟩]]) (by show _ ≤ 1000; exact Nat.le_of_ble_eq_true rfl) (by simp only [List.flatten_cons, List.flatten_nil, List.length_append, List.length_cons, List.length_nil]; omega) (by simp only [List.flatten_cons, List.flatten_nil, List.length_append, List.length_cons, List.length_nil]; omega)) ?_
      refine a1_ 19 rfl mv_ ?_
      refine aw_ [(3, _), (6, _), (7, _), (8, _), (9, _), (10, _)] [⟨b5, 39, 5, [_, _, _, _, _]⟩, _] ?_
      refine AD.done kr_ ?_
      exact ⟨rfl, trivial, Wk.refl _⟩
     refine ac_ call58 (mark_vp ⟨#[41]⟩) ?_
     refine AD.two (i := 9) (j := 16) kr_ ?_ ?_
     ·skip
      refine ab_ (numD 0 [_]) [.int .i64 0, .string ⟨#[]⟩, .int .i64 0] [_, _, _] zeroValue24 runUnderlying26 sizeOf24 (fun b31 => ?_)
      refine ag_ 0 31 3 1 ?_
      refine AD.one (i := 16) kr_ ?_
      refine ab_ (numD 0 [_]) [.int .i64 0, .string ⟨#[]⟩, .int .i64 0] [_, _, _] zeroValue24 runUnderlying26 sizeOf24 (fun b38 => ?_)
      refine ag_ 0 38 3 1 ?_
      refine AD.one (i := 17) kr_ ?_
      refine ab_ (numD 0 [_, _, _, _, _]) [.slice none 0 0, .slice none 0 0, .slice none 0 0, .slice none 0 0, .slice none 0 0] [_, _, _, _, _] zeroValue26 runUnderlying97 sizeOf26 (fun b39 => ?_)
      refine ag_ 0 39 1 5 ?_
      refine AD.one (i := 18) kr_ ?_
      refine ac_ call57 (concat_vp ([[markT ⟨#[40]⟩], H[lowO H l[i]], [betT l[i].k], H[lowO H l[i] + 1], [markT ⟨#[41]⟩]]) (by show _ ≤ 1000; exact Nat.le_of_ble_eq_true rfl) (by simp only [List.flatten_cons, List.flatten_nil, List.length_append, List.length_cons, List.length_nil]; omega) (by simp only [List.flatten_cons, List.flatten_nil, List.length_append, List.length_cons, List.length_nil]; omega)) ?_
      refine a1_ 19 rfl mv_ ?_
      refine aw_ [(3, _), (6, _), (7, _), (8, _), (9, _), (10, _)] [⟨b5, 39, 5, [_, _, _, _, _]⟩, _] ?_
      refine AD.done kr_ ?_
      exact ⟨rfl, trivial, Wk.refl _⟩
     refine ab_ (numD 0 [_]) [.int .i64 0, .string ⟨#[]⟩, .int .i64 0] [_, _, _] zeroValue24 runUnderlying26 sizeOf24 (fun b38 => ?_)
     refine ag_ 0 38 3 1 ?_
     refine AD.one (i := 9) kr_ ?_
     refine ab_ (numD 0 [_]) [.int .i64 0, .string ⟨#[]⟩, .int .i64 0] [_, _, _] zeroValue24 runUnderlying26 sizeOf24 (fun b31 => ?_)
     refine ag_ 0 31 3 1 ?_
     refine AD.one (i := 17) kr_ ?_
     refine ab_ (numD 0 [_, _, _, _, _]) [.slice none 0 0, .slice none 0 0, .slice none 0 0, .slice none 0 0, .slice none 0 0] [_, _, _, _, _] zeroValue26 runUnderlying97 sizeOf26 (fun b39 => ?_)
     refine ag_ 0 39 1 5 ?_
     refine AD.one (i := 18) kr_ ?_
     refine ac_ call57 (concat_vp ([[markT ⟨#[40]⟩], H[lowO H l[i]], [betT l[i].k], H[lowO H l[i] + 1], [markT ⟨#[41]⟩]]) (by show _ ≤ 1000; exact Nat.le_of_ble_eq_true rfl) (by simp only [List.flatten_cons, List.flatten_nil, List.length_append, List.length_cons, List.length_nil]; omega) (by simp only [List.flatten_cons, List.flatten_nil, List.length_append, List.length_cons, List.length_nil]; omega)) ?_
     refine a1_ 19 rfl mv_ ?_
     refine aw_ [(3, _), (6, _), (7, _), (8, _), (9, _), (10, _)] [⟨b5, 39, 5, [_, _, _, _, _]⟩, _] ?_
     refine AD.done kr_ ?_
     exact ⟨rfl, trivial, Wk.refl _⟩
    ·skip
     refine ab_ (numD 0 [_]) [.int .i64 0, .string ⟨#[]⟩, .int .i64 0] [_, _, _] zeroValue24 runUnderlying26 sizeOf24 (fun b31 => ?_)
     refine ag_ 0 31 3 1 ?_
     refine AD.two (i := 1) (j := 15) kr_ ?_ ?_
     ·skip
      refine ab_ (numD 0 [_]) [.int .i64 0, .string ⟨#[]⟩, .int .i64 0] [_, _, _] zeroValue24 runUnderlying26 sizeOf24 (fun b23 => ?_)
      refine ag_ 0 23 3 1 ?_
      refine AD.one (i := 15) kr_ ?_
      refine ac_ call58 (mark_vp ⟨#[41]⟩) ?_
      refine AD.one (i := 16) kr_ ?_
      refine ab_ (numD 0 [_]) [.int .i64 0, .string ⟨#[]⟩, .int .i64 0] [_, _, _] zeroValue24 runUnderlying26 sizeOf24 (fun b38 => ?_)
      refine ag_ 0 38 3 1 ?_
      refine AD.one (i := 17) kr_ ?_
      refine ab_ (numD 0 [_, _, _, _, _]) [.slice none 0 0, .slice none 0 0, .slice none 0 0, .slice none 0 0, .slice none 0 0] [_, _, _, _, _] zeroValue26 runUnderlying97 sizeOf26 (fun b39 => ?_)
      refine ag_ 0 39 1 5 ?_
      refine AD.one (i := 18) kr_ ?_
      refine ac_ call57 (concat_vp ([[markT ⟨#[40]⟩], H[lowO H l[i]], [betT l[i].k], H[lowO H l[i] + 1], [markT ⟨#[41]⟩]]) (by show _ ≤ 1000; exact Nat.le_of_ble_eq_true rfl) (by simp only [List.flatten_cons, List.flatten_nil, List.length_append, List.length_cons, List.length_nil]; omega) (by simp only [List.flatten_cons, List.flatten_nil, List.length_append, List.length_cons, List.length_nil]; omega)) ?_
      refine a1_ 19 rfl mv_ ?_
      refine aw_ [(3, _), (6, _), (7, _), (8, _), (9, _), (10, _)] [⟨b5, 39, 5, [_, _, _, _, _]⟩, _] ?_
      refine AD.done kr_ ?_
      exact ⟨rfl, trivial, Wk.refl _⟩
     refine ac_ call58 (mark_vp ⟨#[41]⟩) ?_
     refine AD.two (i := 1) (j := 16) kr_ ?_ ?_
     ·skip
      refine ab_ (numD 0 [_]) [.int .i64 0, .string ⟨#[]⟩, .int .i64 0] [_, _, _] zeroValue24 runUnderlying26 sizeOf24 (fun b23 => ?_)
      refine ag_ 0 23 3 1 ?_
      refine AD.one (i := 16) kr_ ?_
      refine ab_ (numD 0 [_]) [.int .i64 0, .string ⟨#[]⟩, .int .i64 0] [_, _, _] zeroValue24 runUnderlying26 sizeOf24 (fun b38 => ?_)
      refine ag_ 0 38 3 1 ?_
      refine AD.one (i := 17) kr_ ?_
      refine ab_ (numD 0 [_, _, _, _, _]) [.slice none 0 0, .slice none 0 0, .slice none 0 0, .slice none 0 0, .slice none 0 0] [_, _, _, _, _] zeroValue26 runUnderlying97 sizeOf26 (fun b39 => ?_)
      refine ag_ 0 39 1 5 ?_
      refine AD.one (i := 18) kr_ ?_
      refine ac_ call57 (concat_vp ([[markT ⟨#[40]⟩], H[lowO H l[i]], [betT l[i].k], H[lowO H l[i] + 1], [markT ⟨#[41]⟩]]) (by show _ ≤ 1000; exact Nat.le_of_ble_eq_true rfl) (by simp only [List.flatten_cons, List.flatten_nil, List.length_append, List.length_cons, List.length_nil]; omega) (by simp only [List.flatten_cons, List.flatten_nil, List.length_append, List.length_cons, List.length_nil]; omega)) ?_
      refine a1_ 19 rfl mv_ ?_
      refine aw_ [(3, _), (6, _), (7, _), (8, _), (9, _), (10, _)] [⟨b5, 39, 5, [_, _, _, _, _]⟩, _] ?_
      refine AD.done kr_ ?_
      exact ⟨rfl, trivial, Wk.refl _⟩
     refine ab_ (numD 0 [_]) [.int .i64 0, .string ⟨#[]⟩, .int .i64 0] [_, _, _] zeroValue24 runUnderlying26 sizeOf24 (fun b38 => ?_)
     refine ag_ 0 38 3 1 ?_
     refine AD.one (i := 1) kr_ ?_
     refine ab_ (numD 0 [_]) [.int .i64 0, .string ⟨#[]⟩, .int .i64 0] [_, _, _] zeroValue24 runUnderlying26 sizeOf24 (fun b23 => ?_)
     refine ag_ 0 23 3 1 ?_
     refine AD.one (i := 17) kr_ ?_
     refine ab_ (numD 0 [_, _, _, _, _]) [.slice none 0 0, .slice none 0 0, .slice none 0 0, .slice none 0 0, .slice none 0 0] [_, _, _, _, _] zeroValue26 runUnderlying97 sizeOf26 (fun b39 => ?_)
     refine ag_ 0 39 1 5 ?_
     refine AD.one (i := 18) kr_ ?_
     refine ac_ call57 (concat_vp ([[markT ⟨#[40]⟩], H[lowO H l[i]], [betT l[i].k], H[lowO H l[i] + 1], [markT ⟨#[41]⟩]]) (by show _ ≤ 1000; exact Nat.le_of_ble_eq_true rfl) (by simp only [List.flatten_cons, List.flatten_nil, List.length_append, List.length_cons, List.length_nil]; omega) (by simp only [List.flatten_cons, List.flatten_nil, List.length_append, List.length_cons, List.length_nil]; omega)) ?_
     refine a1_ 19 rfl mv_ ?_
     refine aw_ [(3, _), (6, _), (7, _), (8, _), (9, _), (10, _)] [⟨b5, 39, 5, [_, _, _, _, _]⟩, _] ?_
     refine AD.done kr_ ?_
     exact ⟨rfl, trivial, Wk.refl _⟩
    refine ac_ call58 (mark_vp ⟨#[41]⟩) ?_
    refine AD.three (i := 1) (j := 9) (k := 16) kr_ ?_ ?_ ?_
    ·skip
     refine ab_ (numD 0 [_]) [.int .i64 0, .string ⟨#[]⟩, .int .i64 0] [_, _, _] zeroValue24 runUnderlying26 sizeOf24 (fun b23 => ?_)
     refine ag_ 0 23 3 1 ?_
     refine AD.two (i := 9) (j := 16) kr_ ?_ ?_
     ·skip
      refine ab_ (numD 0 [_]) [.int .i64 0, .string ⟨#[]⟩, .int .i64 0] [_, _, _] zeroValue24 runUnderlying26 sizeOf24 (fun b31 => ?_)
      refine ag_ 0 31 3 1 ?_
      refine AD.one (i := 16) kr_ ?_
      refine ab_ (numD 0 [_]) [.int .i64 0, .string ⟨#[]⟩, .int .i64 0] [_, _, _] zeroValue24 runUnderlying26 sizeOf24 (fun b38 => ?_)
      refine ag_ 0 38 3 1 ?_
      refine AD.one (i := 17) kr_ ?_
      refine ab_ (numD 0 [_, _, _, _, _]) [.slice none 0 0, .slice none 0 0, .slice none 0 0, .slice none 0 0, .slice none 0 0] [_, _, _, _, _] zeroValue26 runUnderlying97 sizeOf26 (fun b39 => ?_)
      refine ag_ 0 39 1 5 ?_
      refine AD.one (i := 18) kr_ ?_
      refine ac_ call57 (concat_vp ([[markT ⟨#[40]⟩], H[lowO H l[i]], [betT l[i].k], H[lowO H l[i] + 1], [markT ⟨#[41]⟩]]) (by show _ ≤ 1000; exact Nat.le_of_ble_eq_true rfl) (by simp only [List.flatten_cons, List.flatten_nil, List.length_append, List.length_cons, List.length_nil]; omega) (by simp only [List.flatten_cons, List.flatten_nil, List.length_append, List.length_cons, List.length_nil]; omega)) ?_
      refine a1_ 19 rfl mv_ ?_
      refine aw_ [(3, _), (6, _), (7, _), (8, _), (9, _), (10, _)] [⟨b5, 39, 5, [_, _, _, _, _]⟩, _] ?_
      refine AD.done kr_ ?_
      exact ⟨rfl, trivial, Wk.refl _⟩
     refine ab_ (numD 0 [_]) [.int .i64 0, .string ⟨#[]⟩, .int .i64 0] [_, _, _] zeroValue24 runUnderlying26 sizeOf24 (fun b38 => ?_)
     refine ag_ 0 38 3 1 ?_
     refine AD.one (i := 9) kr_ ?_
     refine ab_ (numD 0 [_]) [.int .i64 0, .string ⟨#[]⟩, .int .i64 0] [_, _, _] zeroValue24 runUnderlying26 sizeOf24 (fun b31 => ?_)
     refine ag_ 0 31 3 1 ?_
     refine AD.one (i := 17) kr_ ?_
     refine ab_ (numD 0 [_, _, _, _, _]) [.slice none 0 0, .slice none 0 0, .slice none 0 0, .slice none 0 0, .slice none 0 0] [_, _, _, _, _] zeroValue26 runUnderlying97 sizeOf26 (fun b39 => ?_)
     refine ag_ 0 39 1 5 ?_
     refine AD.one (i := 18) kr_ ?_
     refine ac_ call57 (concat_vp ([[markT ⟨#[40]⟩], H[lowO H l[i]], [betT l[i].k], H[lowO H l[i] + 1], [markT ⟨#[41]⟩]]) (by show _ ≤ 1000; exact Nat.le_of_ble_eq_true rfl) (by simp only [List.flatten_cons, List.flatten_nil, List.length_append, List.length_cons, List.length_nil]; omega) (by simp only [List.flatten_cons, List.flatten_nil, List.length_append, List.length_cons, List.length_nil]; omega)) ?_
     refine a1_ 19 rfl mv_ ?_
     refine aw_ [(3, _), (6, _), (7, _), (8, _), (9, _), (10, _)] [⟨b5, 39, 5, [_, _, _, _, _]⟩, _] ?_
     refine AD.done kr_ ?_
     exact ⟨rfl, trivial, Wk.refl _⟩
    ·skip
     refine ab_ (numD 0 [_]) [.int .i64 0, .string ⟨#[]⟩, .int .i64 0] [_, _, _] zeroValue24 runUnderlying26 sizeOf24 (fun b31 => ?_)
     refine ag_ 0 31 3 1 ?_
     refine AD.two (i := 1) (j := 16) kr_ ?_ ?_
     ·skip
      refine ab_ (numD 0 [_]) [.int .i64 0, .string ⟨#[]⟩, .int .i64 0] [_, _, _] zeroValue24 runUnderlying26 sizeOf24 (fun b23 => ?_)
      refine ag_ 0 23 3 1 ?_
      refine AD.one (i := 16) kr_ ?_
      refine ab_ (numD 0 [_]) [.int .i64 0, .string ⟨#[]⟩, .int .i64 0] [_, _, _] zeroValue24 runUnderlying26 sizeOf24 (fun b38 => ?_)
      refine ag_ 0 38 3 1 ?_
      refine AD.one (i := 17) kr_ ?_
      refine ab_ (numD 0 [_, _, _, _, _]) [.slice none 0 0, .slice none 0 0, .slice none 0 0, .slice none 0 0, .slice none 0 0] [_, _, _, _, _] zeroValue26 runUnderlying97 sizeOf26 (fun b39 => ?_)
      refine ag_ 0 39 1 5 ?_
      refine AD.one (i := 18) kr_ ?_
      refine ac_ call57 (concat_vp ([[markT ⟨#[40]⟩], H[lowO H l[i]], [betT l[i].k], H[lowO H l[i] + 1], [markT ⟨#[41]⟩]]) (by show _ ≤ 1000; exact Nat.le_of_ble_eq_true rfl) (by simp only [List.flatten_cons, List.flatten_nil, List.length_append, List.length_cons, List.length_nil]; omega) (by simp only [List.flatten_cons, List.flatten_nil, List.length_append, List.length_cons, List.length_nil]; omega)) ?_
      refine a1_ 19 rfl mv_ ?_
      refine aw_ [(3, _), (6, _), (7, _), (8, _), (9, _), (10, _)] [⟨b5, 39, 5, [_, _, _, _, _]⟩, _] ?_
      refine AD.done kr_ ?_
      exact ⟨rfl, trivial, Wk.refl _⟩
     refine ab_ (numD 0 [_]) [.int .i64 0, .string ⟨#[]⟩, .int .i64 0] [_, _, _] zeroValue24 runUnderlying26 sizeOf24 (fun b38 => ?_)
     refine ag_ 0 38 3 1 ?_
     refine AD.one (i := 1) kr_ ?_
     refine ab_ (numD 0 [_]) [.int .i64 0, .string ⟨#[]⟩, .int .i64 0] [_, _, _] zeroValue24 runUnderlying26 sizeOf24 (fun b23 => ?_)
     refine ag_ 0 23 3 1 ?_
     refine AD.one (i := 17) kr_ ?_
     refine ab_ (numD 0 [_, _, _, _, _]) [.slice none 0 0, .slice none 0 0, .slice none 0 0, .slice none 0 0, .slice none 0 0] [_, _, _, _, _] zeroValue26 runUnderlying97 sizeOf26 (fun b39 => ?_)
     refine ag_ 0 39 1 5 ?_
     refine AD.one (i := 18) kr_ ?_
     refine ac_ call57 (concat_vp ([[markT ⟨#[40]⟩], H[lowO H l[i]], [betT l[i].k], H[lowO H l[i] + 1], [markT ⟨#[41]⟩]]) (by show _ ≤ 1000; exact Nat.le_of_ble_eq_true rfl) (by simp only [List.flatten_cons, List.flatten_nil, List.length_append, List.length_cons, List.length_nil]; omega) (by simp only [List.flatten_cons, List.flatten_nil, List.length_append, List.length_cons, List.length_nil]; omega)) ?_
     refine a1_ 19 rfl mv_ ?_
     refine aw_ [(3, _), (6, _), (7, _), (8, _), (9, _), (10, _)] [⟨b5, 39, 5, [_, _, _, _, _]⟩, _] ?_
     refine AD.done kr_ ?_
     exact ⟨rfl, trivial, Wk.refl _⟩
    refine ab_ (numD 0 [_]) [.int .i64 0, .string ⟨#[]⟩, .int .i64 0] [_, _, _] zeroValue24 runUnderlying26 sizeOf24 (fun b38 => ?_)
    refine ag_ 0 38 3 1 ?_
    refine AD.two (i := 1) (j := 9) kr_ ?_ ?_
    ·skip
     refine ab_ (numD 0 [_]) [.int .i64 0, .string ⟨#[]⟩, .int .i64 0] [_, _, _] zeroValue24 runUnderlying26 sizeOf24 (fun b23 => ?_)
     refine ag_ 0 23 3 1 ?_
     refine AD.one (i := 9) kr_ ?_
     refine ab_ (numD 0 [_]) [.int .i64 0, .string ⟨#[]⟩, .int .i64 0] [_, _, _] zeroValue24 runUnderlying26 sizeOf24 (fun b31 => ?_)
     refine ag_ 0 31 3 1 ?_
     refine AD.one (i := 17) kr_ ?_
     refine ab_ (numD 0 [_, _, _, _, _]) [.slice none 0 0, .slice none 0 0, .slice none 0 0, .slice none 0 0, .slice none 0 0] [_, _, _, _, _] zeroValue26 runUnderlying97 sizeOf26 (fun b39 => ?_)
     refine ag_ 0 39 1 5 ?_
     refine AD.one (i := 18) kr_ ?_
     refine ac_ call57 (concat_vp ([[markT ⟨#[40]⟩], H[lowO H l[i]], [betT l[i].k], H[lowO H l[i] + 1], [markT ⟨#[41]⟩]]) (by show _ ≤ 1000; exact Nat.le_of_ble_eq_true rfl) (by simp only [List.flatten_cons, List.flatten_nil, List.length_append, List.length_cons, List.length_nil]; omega) (by simp only [List.flatten_cons, List.flatten_nil, List.length_append, List.length_cons, List.length_nil]; omega)) ?_
     refine a1_ 19 rfl mv_ ?_
     refine aw_ [(3, _), (6, _), (7, _), (8, _), (9, _), (10, _)] [⟨b5, 39, 5, [_, _, _, _, _]⟩, _] ?_
     refine AD.done kr_ ?_
     exact ⟨rfl, trivial, Wk.refl _⟩
    refine ab_ (numD 0 [_]) [.int .i64 0, .string ⟨#[]⟩, .int .i64 0] [_, _, _] zeroValue24 runUnderlying26 sizeOf24 (fun b31 => ?_)
    refine ag_ 0 31 3 1 ?_
    refine AD.one (i := 1) kr_ ?_
    refine ab_ (numD 0 [_]) [.int .i64 0, .string ⟨#[]⟩, .int .i64 0] [_, _, _] zeroValue24 runUnderlying26 sizeOf24 (fun b23 => ?_)
    refine ag_ 0 23 3 1 ?_
    refine AD.one (i := 17) kr_ ?_
    refine ab_ (numD 0 [_, _, _, _, _]) [.slice none 0 0, .slice none 0 0, .slice none 0 0, .slice none 0 0, .slice none 0 0] [_, _, _, _, _] zeroValue26 runUnderlying97 sizeOf26 (fun b39 => ?_)
    refine ag_ 0 39 1 5 ?_
    refine AD.one (i := 18) kr_ ?_
    refine ac_ call57 (concat_vp ([[markT ⟨#[40]⟩], H[lowO H l[i]], [betT l[i].k], H[lowO H l[i] + 1], [markT ⟨#[41]⟩]]) (by show _ ≤ 1000; exact Nat.le_of_ble_eq_true rfl) (by simp only [List.flatten_cons, List.flatten_nil, List.length_append, List.length_cons, List.length_nil]; omega) (by simp only [List.flatten_cons, List.flatten_nil, List.length_append, List.length_cons, List.length_nil]; omega)) ?_
    refine a1_ 19 rfl mv_ ?_
    refine aw_ [(3, _), (6, _), (7, _), (8, _), (9, _), (10, _)] [⟨b5, 39, 5, [_, _, _, _, _]⟩, _] ?_
    refine AD.done kr_ ?_
    exact ⟨rfl, trivial, Wk.refl _⟩
   rintro _ _ ⟨rfl, _, hwk__⟩
   refine ⟨_, ?_, [[markT ⟨#[40]⟩], H[lowO H l[i]], [betT l[i].k], H[lowO H l[i] + 1], [markT ⟨#[41]⟩]].flatten, (some ⟨bh, 0, none⟩), cph, [⟨bh, 26, cph * 1, H.flatMap cK⟩], (by unfold tokO; rw [if_neg hc1', if_neg hc2', if_neg hc3', if_neg hc4', getD_at hn0, getD_at hn1]), (ownL_row hch1 hch2), rfl⟩
   exact hwk__.trans (Wk.asS (n := 90) rfl sv_ sq_)
  rintro _ ⟨Tx, ad, cp, Sx, hT, hox, rfl⟩
  have hTl := tok_len l[i] (H.getD (lowO H l[i]) []) (H.getD (lowO H l[i] + 1) [])
  refine CD.region ?_
  refine om_ ?_
  refine om_ ?_
  refine om_ ?_
  refine os_ (still_slice3o hox rfl ot ot ot runUnderlying97 sizeOf26 (by unfold lowO; omega)) ?_
  refine om_ ?_
  refine ob_ (numD 0 [_]) [.slice none 0 0] [_] zeroValue26 runUnderlying97 sizeOf26 (fun b84 => ?_)
  refine og_ 0 84 1 1 ?_
  refine OD.appendNewG (ls := H) (new := [Tx]) (n := lowO H l[i]) (Sq := Sx) cK_len cK_one wp_ rfl rfl underlying97 info26_Pe2 rfl (by decide) ot hox (perm_r11 (A := [])) (by unfold lowO; omega) ot (by simp) (by simp only [maxLen, List.length_cons, List.length_nil]; omega) (by simp only [List.length_cons, List.length_nil]; omega) (fun b85 cp85 h185 h285 => ?_)
  refine OD.perm (perm_q11 (S1 := [⟨b85, 26, cp85 * 1, List.flatMap cK (H.take (lowO H l[i]) ++ [Tx])⟩]) (A := [])) ?_
  refine om_ ?_
  refine OD.wk (Wk.as_ (n := 90) (l' := [(3, _), (8, _), (9, _), (10, _)]) (S' := ([⟨b85, 26, cp85 * 1, List.flatMap cK (H.take (lowO H l[i]) ++ [Tx])⟩])) rfl rfl sl_) ?_
  refine OD.nil ?_
  refine CD.region ?_
  refine os_ bn_ ?_
  refine om_ ?_
  refine nm_ [3, 8, 9, 10] ?_
  refine ⟨((i + 1), (stepO H l[i]), (some ⟨b85, 0, none⟩), cp85, [⟨b85, 26, cp85 * 1, List.flatMap cK (H.take (lowO H l[i]) ++ [Tx])⟩]), _, ?_, ?_, (by omega), (by rw [hH, ← fold_step hlt]), (by rw [step_len hpp, ← exprL_ok hlt hop]; exact hx), (by have := step_len hpp; omega), (by have := step_flat (h := H) (o := l[i]); omega), (OwnL.cast (ownL_row h185 h285) (by rw [hT]; rfl)), rfl⟩
  ·first | omega | (simp only []; omega)
  exact Wk.asS (n := 90) rfl su_ (by repeat (first | exact trivial | refine ⟨(by (repeat (first | exact look_hit | (apply look_at; focus (first | rfl | (simp; done) | (congr 2; omega) | (apply row_eq; rw [hT]; rfl) | (apply row_eq; rfl) | (apply row_eq; simp; done))) | (apply look_miss; focus rfl))); done), ?_⟩))
 have hc0' := hc0
 (try simp only [V.cnd, ne_eq] at hc0')
 have hie : l.length ≤ i := by simp at hc0; omega
 have hend := hx
 rw [exprL_end hie] at hend
 have hH1 : H.length = 1 := by (split at hend; omega; cases hend)
 refine CD.exit ?_
 refine CD.seq ?_
 obtain ⟨bh, hbh1, hch1, hch2, hSh⟩ := own_pos hoh (show 0 < H.length by omega)
 subst hbh1 hSh
 have hn0 : 0 < H.length := by omega
 refine CD.region ?_
 refine om_ ?_
 refine os_ (still_r2 (mk := Op.indexAddr 97) rfl ot opd_const (by first | exact ix_list runUnderlying97 sizeOf26 (j := 0) rfl (by first | exact hn0 | exact hn1) | exact ix_row runUnderlying97 sizeOf26 (j := 0) rfl (by first | exact hn0 | exact hn1))) ?_
 first | refine os_ (still_r1 (mk := Op.load 26) rfl ot (by exact ld_row0 (k := 0) (i := 0) cK_len rfl rfl rfl isAgg26 hn0 rfl)) ?_ | refine OD.still wp_ rfl (still_r1 (mk := Op.load 26) rfl ot (by exact ld_row0 (k := 1) (i := 0) cK_len rfl rfl rfl isAgg26 hn0 rfl)) ?_ | refine OD.still wp_ rfl (still_r1 (mk := Op.load 26) rfl ot (by exact ld_row0 (k := 2) (i := 0) cK_len rfl rfl rfl isAgg26 hn0 rfl)) ?_
 refine om_ ?_
 refine on_ [(2, _)] [_] ?_
 refine CD.ret ?_
 refine ⟨.inr rfl, rt_ results59 ?_⟩
 refine ⟨?_, rfl⟩
 unfold showO
 rw [show l.foldl stepO [] = H by rw [hH, List.take_of_length_le hie], getD_at hn0]

end Go.Proofs.YtjgekbmahhhokaaDoor.Pa

namespace Go.Proofs.YtjgekbmahhhokaaDoor.Pa
open Go.Proofs.Tryd
open Go.RowKit V Pk Go.Proofs.YtjgekbmahhhokaaDoor.Vl Go.Proofs.YtjgekbmahhhokaaDoor.Nm
theorem ns_bind {α β : Type} {r : Rs α} {f : α → Nat → List OpL → Rs β} (h : r ≠ .stuck) (k : ∀ v p o, r = .ok v p o → f v p o ≠ .stuck) : r.bind f ≠ .stuck := by
 cases r with
 | ok v p o => exact k v p o rfl
 | no p e => exact fun h => by cases h
 | stuck => exact absurd rfl h
theorem ns_ok {α : Type} {v : α} {p : Nat} {o : List OpL} : (Rs.ok v p o) ≠ .stuck := fun h => by cases h
theorem ns_gv {α : Type} {l : List Tk} {p : Nat} {e : Int} : (gv l p e : Rs α) ≠ .stuck := fun h => by cases h
theorem ns_put {l : List Tk} {o : OpL} {p : Nat} {ops : List OpL} : putP l o p ops ≠ .stuck := by
 unfold putP; split <;> first | exact ns_gv | exact ns_ok
theorem ns_mark {l : List Tk} {s : ByteArray} {p : Nat} {ops : List OpL} : markP l s p ops ≠ .stuck := by
 unfold markP; split <;> first | exact ns_gv | exact ns_ok
theorem ns_name {l : List Tk} {p : Nat} {ops : List OpL} : nameP l p ops ≠ .stuck := by
 unfold nameP; repeat' split
 all_goals first | exact ns_gv | exact ns_ok
theorem ns_lit {l : List Tk} {p : Nat} {ops : List OpL} : litP l p ops ≠ .stuck := by
 unfold litP; repeat' split
 all_goals first | exact ns_gv | exact ns_ok
theorem ns_must {l : List Tk} : ∀ (ss : List ByteArray) {p : Nat} {ops : List OpL}, mustP l ss p ops ≠ .stuck
 | [], _, _ => ns_ok
 | s :: r, p, ops => by
  rw [mustP]; split
  ·exact ns_must r
  exact ns_gv
def rk : Lv → Nat
 | .prod => 2
 | .sum => 3
 | .comp => 4
 | .not => 5
 | .and => 6
 | .or => 7
 | _ => 1
theorem exP_ns {l : List Tk} : ∀ (n : Nat) (lv : Lv) (p : Nat) (ops : List OpL), p ≤ l.length → 12 * (l.length - p) + rk lv ≤ n → exP l n lv p ops ≠ .stuck
 | 0, lv, _, _, _, h => absurd h (by have : 0 < rk lv := (by cases lv <;> decide); omega)
 | n + 1, .prim, p, ops, hp, h => by
  simp only [rk] at h
  rw [exP]
  refine ns_bind ns_lit fun v p1 o1 h1 => ?_
  have := lit_le h1 hp
  split
  ·exact ns_put
  split
  ·have h2 := isQ_lt (by assumption)
   exact ns_bind (exP_ns n _ _ _ h2 (by simp only [rk]; omega)) fun _ _ _ _ => ns_mark
  exact ns_bind ns_name fun _ _ _ _ => ns_put
 | n + 1, .prod, p, ops, hp, h => by
  simp only [rk] at h
  rw [exP]
  refine ns_bind (exP_ns n _ _ _ hp (by simp only [rk]; omega)) fun _ p1 o1 h1 => ?_
  have g := exP_gr n .prim h1 hp
  exact exP_ns n _ _ _ g.2.1 (by have := g.2.2.1; simp only [rk, wL] at *; omega)
 | n + 1, .sum, p, ops, hp, h => by
  simp only [rk] at h
  rw [exP]
  refine ns_bind (exP_ns n _ _ _ hp (by simp only [rk]; omega)) fun _ p1 o1 h1 => ?_
  have g := exP_gr n .prod h1 hp
  exact exP_ns n _ _ _ g.2.1 (by have := g.2.2.1; simp only [rk, wL] at *; omega)
 | n + 1, .and, p, ops, hp, h => by
  simp only [rk] at h
  rw [exP]
  refine ns_bind (exP_ns n _ _ _ hp (by simp only [rk]; omega)) fun _ p1 o1 h1 => ?_
  have g := exP_gr n .not h1 hp
  exact exP_ns n _ _ _ g.2.1 (by have := g.2.2.1; simp only [rk, wL] at *; omega)
 | n + 1, .or, p, ops, hp, h => by
  simp only [rk] at h
  rw [exP]
  refine ns_bind (exP_ns n _ _ _ hp (by simp only [rk]; omega)) fun _ p1 o1 h1 => ?_
  have g := exP_gr n .and h1 hp
  exact exP_ns n _ _ _ g.2.1 (by have := g.2.2.1; simp only [rk, wL] at *; omega)
 | n + 1, .not, p, ops, hp, h => by
  simp only [rk] at h
  rw [exP]
  split
  ·have h2 := isQ_lt (by assumption)
   exact ns_bind (exP_ns n _ _ _ h2 (by simp only [rk]; omega)) fun _ _ _ _ => ns_put
  exact exP_ns n _ _ _ hp (by simp only [rk]; omega)
 | n + 1, .comp, p, ops, hp, h => by
  simp only [rk] at h
  rw [exP]
  refine ns_bind (exP_ns n _ _ _ hp (by simp only [rk]; omega)) fun _ p1 o1 h1 => ?_
  have g := exP_gr n .sum h1 hp
  have g2 := g.2.2.1
  simp only [wL] at g2
  split
  ·refine ns_bind (ns_must _) fun _ _ _ _ => ns_bind ns_put fun _ _ _ _ => ?_
   split
   ·exact ns_put
   exact ns_ok
  split
  ·exact ns_ok
  have hm := List.find?_some (by assumption)
  have h2 := isQ_lt (by simpa using hm)
  refine ns_bind (exP_ns n _ _ _ h2 (by simp only [rk]; omega)) fun _ _ _ _ => ns_bind ns_put fun _ _ _ _ => ?_
  split
  ·exact ns_put
  exact ns_ok
 | n + 1, .prodL, p, ops, hp, h => by
  simp only [rk] at h
  rw [exP]
  split
  ·have h2 := isQ_lt (by assumption)
   refine ns_bind (exP_ns n _ _ _ h2 (by simp only [rk]; omega)) fun _ p1 o1 h1 => ns_bind ns_put fun _ p2 o2 h3 => ?_
   have g := exP_gr n _ h1 h2
   obtain ⟨rfl, -, -⟩ := put_inv h3
   exact exP_ns n _ _ _ g.2.1 (by have := g.2.2.1; simp only [rk, wL] at *; omega)
  exact ns_ok
 | n + 1, .andL, p, ops, hp, h => by
  simp only [rk] at h
  rw [exP]
  split
  ·have h2 := isQ_lt (by assumption)
   refine ns_bind (exP_ns n _ _ _ h2 (by simp only [rk]; omega)) fun _ p1 o1 h1 => ns_bind ns_put fun _ p2 o2 h3 => ?_
   have g := exP_gr n _ h1 h2
   obtain ⟨rfl, -, -⟩ := put_inv h3
   exact exP_ns n _ _ _ g.2.1 (by have := g.2.2.1; simp only [rk, wL] at *; omega)
  exact ns_ok
 | n + 1, .orL, p, ops, hp, h => by
  simp only [rk] at h
  rw [exP]
  split
  ·have h2 := isQ_lt (by assumption)
   refine ns_bind (exP_ns n _ _ _ h2 (by simp only [rk]; omega)) fun _ p1 o1 h1 => ns_bind ns_put fun _ p2 o2 h3 => ?_
   have g := exP_gr n _ h1 h2
   obtain ⟨rfl, -, -⟩ := put_inv h3
   exact exP_ns n _ _ _ g.2.1 (by have := g.2.2.1; simp only [rk, wL] at *; omega)
  exact ns_ok
 | n + 1, .sumL, p, ops, hp, h => by
  simp only [rk] at h
  rw [exP]
  split
  ·have h2 := isQ_lt (by assumption)
   refine ns_bind (exP_ns n _ _ _ h2 (by simp only [rk]; omega)) fun _ p1 o1 h1 => ns_bind ns_put fun _ p2 o2 h3 => ?_
   have g := exP_gr n _ h1 h2
   obtain ⟨rfl, -, -⟩ := put_inv h3
   exact exP_ns n _ _ _ g.2.1 (by have := g.2.2.1; simp only [rk, wL] at *; omega)
  split
  ·have h2 := isQ_lt (by assumption)
   refine ns_bind (exP_ns n _ _ _ h2 (by simp only [rk]; omega)) fun _ p1 o1 h1 => ns_bind ns_put fun _ p2 o2 h3 => ?_
   have g := exP_gr n _ h1 h2
   obtain ⟨rfl, -, -⟩ := put_inv h3
   exact exP_ns n _ _ _ g.2.1 (by have := g.2.2.1; simp only [rk, wL] at *; omega)
  exact ns_ok
theorem ns_expr {l : List Tk} {p : Nat} (hp : p ≤ l.length) : exprP l p ≠ .stuck := ns_bind (exP_ns _ _ _ _ hp (by simp only [rk]; omega)) fun _ _ _ _ => ns_ok
theorem ns_where {l : List Tk} {p : Nat} {ops : List OpL} : whereP l p ops ≠ .stuck := by
 unfold whereP; split
 ·exact ns_expr (isQ_lt (by assumption))
 exact ns_ok
theorem ns_cols {l : List Tk} : ∀ (n : Nat) (out : List ColL) (p : Nat) (ops : List OpL), 6 < n + out.length → out.length ≤ 6 → colsP l n out p ops ≠ .stuck
 | 0, out, _, _, h, h6 => by omega
 | n + 1, out, p, ops, h, h6 => by
  rw [colsP]; split
  ·exact ns_gv
  refine ns_bind ns_name fun _ _ _ _ => ?_
  repeat' split
  ·exact ns_gv
  ·exact ns_gv
  ·exact ns_cols n _ _ _ (by simp; omega) (by simp; omega)
  exact ns_bind ns_mark fun _ _ _ _ => ns_ok
theorem ns_row {l : List Tk} : ∀ (n : Nat) (out : List Vl) (p : Nat) (ops : List OpL), 6 < n + out.length → out.length ≤ 6 → rowP l n out p ops ≠ .stuck
 | 0, out, _, _, h, h6 => by omega
 | n + 1, out, p, ops, h, h6 => by
  rw [rowP]; split
  ·exact ns_gv
  refine ns_bind ns_lit fun _ _ _ _ => ?_
  repeat' split
  ·exact ns_gv
  ·exact ns_row n _ _ _ (by simp; omega) (by simp; omega)
  exact ns_bind ns_mark fun _ _ _ _ => ns_ok
theorem ns_names {l : List Tk} : ∀ (n : Nat) (out : List ByteArray) (p : Nat) (ops : List OpL), 6 < n + out.length → out.length ≤ 6 → namesP l n out p ops ≠ .stuck
 | 0, out, _, _, h, h6 => by omega
 | n + 1, out, p, ops, h, h6 => by
  rw [namesP]; split
  ·exact ns_gv
  refine ns_bind ns_name fun _ _ _ _ => ?_
  repeat' split
  ·exact ns_names n _ _ _ (by simp; omega) (by simp; omega)
  exact ns_ok
theorem ns_head {l : List Tk} {p : Nat} {ops : List OpL} : headP l p ops ≠ .stuck := by
 unfold headP; repeat' split
 ·exact ns_ok
 ·exact ns_bind ns_mark fun _ _ _ _ => ns_bind ns_mark fun _ _ _ _ => ns_bind ns_mark fun _ _ _ _ => ns_ok
 exact ns_bind (ns_names _ _ _ _ (by simp) (by simp)) fun _ _ _ _ => ns_ok
theorem ns_tail {l : List Tk} {s : StL} {p : Nat} {ops : List OpL} : tailP l s p ops ≠ .stuck := by
 unfold tailP
 refine ns_bind ?_ fun _ _ _ _ => ?_
 ·unfold ordP; split
  ·exact ns_bind (ns_must _) fun _ _ _ _ => ns_bind ns_name fun _ _ _ _ => ns_ok
  exact ns_ok
 unfold limP; repeat' split
 all_goals first | exact ns_ok | exact ns_gv
theorem ns_pick {l : List Tk} {p : Nat} {ops : List OpL} : pickP l p ops ≠ .stuck :=
 ns_bind ns_head fun _ _ _ _ => ns_bind (ns_must _) fun _ _ _ _ => ns_bind ns_name fun _ _ _ _ => ns_bind ns_where fun _ _ _ _ => ns_tail
theorem ns_st {l : List Tk} {p : Nat} {ops : List OpL} : stP l p ops ≠ .stuck := by
 unfold stP; repeat' split
 ·exact ns_bind (ns_must _) fun _ _ _ _ => ns_bind ns_name fun _ _ _ _ => ns_bind (ns_bind ns_mark fun _ _ _ _ => ns_cols _ _ _ _ (by simp) (by simp)) fun _ _ _ _ => ns_ok
 ·exact ns_bind (ns_must _) fun _ _ _ _ => ns_bind ns_name fun _ _ _ _ => ns_ok
 ·exact ns_bind (ns_must _) fun _ _ _ _ => ns_bind ns_name fun _ _ _ _ => ns_bind (ns_must _) fun _ _ _ _ => ns_bind (ns_bind ns_mark fun _ _ _ _ => ns_row _ _ _ _ (by simp) (by simp)) fun _ _ _ _ => ns_ok
 ·exact ns_pick
 ·refine ns_bind ns_name fun _ _ _ _ => ns_bind (ns_must _) fun _ _ _ _ => ns_bind ns_name fun _ _ _ _ => ns_bind ns_mark fun _ _ _ hm => ?_
  obtain ⟨rfl, -, hq⟩ := mark_inv hm
  exact ns_bind (ns_expr (isQ_lt hq)) fun _ _ _ _ => ns_bind ns_where fun _ _ _ _ => ns_ok
 ·exact ns_bind (ns_must _) fun _ _ _ _ => ns_bind ns_name fun _ _ _ _ => ns_bind ns_where fun _ _ _ _ => ns_ok
 all_goals first | exact ns_ok | exact ns_gv

end Go.Proofs.YtjgekbmahhhokaaDoor.Pa

namespace Go.Proofs.YtjgekbmahhhokaaDoor.Pa
open Go.Proofs.Tryd
open Go.RowKit V Pk Go.Proofs.YtjgekbmahhhokaaDoor.Vl Go.Proofs.YtjgekbmahhhokaaDoor.Nm
variable {G : List (Nat × List Value)}
def cSt (s : StL) : List D := [.v (.int .i64 s.kind), .v (.string s.table), .list 2 (s.cols.flatMap cC) s.cols.length, .list 3 (s.row.flatMap cV) s.row.length, .list 1 (s.names.flatMap cS) s.names.length, .v (.bool s.count), .list 5 (s.wher.flatMap cO) s.wher.length, .v (.string s.order), .v (.bool s.down), .v (.int .i64 s.limit), .v (.string s.set), .list 5 (s.to.flatMap cO) s.to.length]
def okS (s : StL) : Prop := s.cols.length ≤ 6 ∧ s.row.length ≤ 6 ∧ s.names.length ≤ 6 ∧ s.wher.length ≤ 40 ∧ s.to.length ≤ 40
def EndS (br bs : Nat) (l : List Tk) (R : Rs StL) (S' : List Blk) : Prop := ∃ s p os ad n cap, R = .ok s p os ∧ okS s ∧ p ≤ l.length ∧ S' = [⟨br, 70, 3, [.list 3 (l.flatMap cT) l.length, .v (.int .i64 ((p : Nat) : Int)), .v (.slice ad n cap)]⟩, ⟨bs, 32, 12, [.v (.int .i64 s.kind), .v (.string s.table), .list 2 (s.cols.flatMap cC) s.cols.length, .list 3 (s.row.flatMap cV) s.row.length, .list 1 (s.names.flatMap cS) s.names.length, .v (.bool s.count), .list 5 (s.wher.flatMap cO) s.wher.length, .v (.string s.order), .v (.bool s.down), .v (.int .i64 s.limit), .v (.string s.set), .list 5 (s.to.flatMap cO) s.to.length]⟩]
def countR (l : List Tk) (p : Nat) (ops : List OpL) : Rs (List ByteArray × Bool) := (markP l ⟨#[42]⟩ p ops).bind fun _ p ops => (markP l ⟨#[41]⟩ p ops).bind fun _ p ops => .ok ([], true) p ops
def countR2 (l : List Tk) (p : Nat) (ops : List OpL) : Rs (List ByteArray × Bool) := (markP l ⟨#[41]⟩ p ops).bind fun _ p ops => .ok ([], true) p ops
theorem head_1 {l : List Tk} {p : Nat} {ops : List OpL} (h : isQ l p 4 ⟨#[42]⟩ = true) : (headP l p ops).bind (pickK l) = pickK l ([], false) (p + 1) ops := by unfold headP; rw [if_pos h]; rfl
theorem head_2 {l : List Tk} {p : Nat} {ops : List OpL} (h : isQ l p 4 ⟨#[42]⟩ = false) (h2 : isQ l p 1 ⟨#[67, 79, 85, 78, 84]⟩ = true) : (headP l p ops).bind (pickK l) = (markP l ⟨#[40]⟩ (p + 1) ops).bind fun _ p ops => (countR l p ops).bind (pickK l) := by
 unfold headP; rw [if_neg (F_ h), if_pos h2]
 cases markP l ⟨#[40]⟩ (p + 1) ops <;> rfl
theorem head_3 {l : List Tk} {p : Nat} {ops : List OpL} (h : isQ l p 4 ⟨#[42]⟩ = false) (h2 : isQ l p 1 ⟨#[67, 79, 85, 78, 84]⟩ = false) : (headP l p ops).bind (pickK l) = (namesP l 8 [] p ops).bind fun ns p ops => pickK l (ns, false) p ops := by
 unfold headP; rw [if_neg (F_ h), if_neg (F_ h2)]
 cases namesP l 8 [] p ops <;> rfl
theorem count_1 {l : List Tk} {p : Nat} {ops : List OpL} : (countR l p ops).bind (pickK l) = (markP l ⟨#[42]⟩ p ops).bind fun _ p ops => (countR2 l p ops).bind (pickK l) := by
 unfold countR; cases markP l ⟨#[42]⟩ p ops <;> rfl
theorem count_2 {l : List Tk} {p : Nat} {ops : List OpL} : (countR2 l p ops).bind (pickK l) = (markP l ⟨#[41]⟩ p ops).bind fun _ p ops => pickK l ([], true) p ops := by
 unfold countR2; cases markP l ⟨#[41]⟩ p ops <;> rfl
theorem names_1 {l : List Tk} {n : Nat} {out : List ByteArray} {p : Nat} {ops : List OpL} (h : ¬ out.length = 6) : (namesP l (n + 1) out p ops).bind (fun ns p ops => pickK l (ns, false) p ops) =
  (nameP l p ops).bind fun s p1 ops1 => (if isQ l p1 4 ⟨#[44]⟩ = true then namesP l n (out ++ [s]) (p1 + 1) ops1 else .ok (out ++ [s]) p1 ops1).bind fun ns p ops => pickK l (ns, false) p ops := by
 rw [namesP, if_neg h]; cases nameP l p ops <;> rfl
theorem lim_1 {l : List Tk} {s : StL} {p : Nat} {ops : List OpL} (h : isQ l p 1 ⟨#[76, 73, 77, 73, 84]⟩ = true) (h2 : p + 1 < l.length) (hk : (l[p + 1]'h2).k = 2) : limP l s p ops = .ok { s with limit := (l[p + 1]'h2).n } (p + 2) ops := by
 unfold limP; rw [if_pos h, dif_pos ⟨h2, by rw [tk_at h2]; exact hk⟩]
theorem lim_2 {l : List Tk} {s : StL} {p : Nat} {ops : List OpL} (h : isQ l p 1 ⟨#[76, 73, 77, 73, 84]⟩ = true) (h2 : ¬ (p + 1 < l.length ∧ (l.getD (p + 1) ⟨0, ⟨#[]⟩, 0⟩).k = 2)) : limP l s p ops = gv l (p + 1) 6 := by
 unfold limP; rw [if_pos h, dif_neg h2]
theorem lim_3 {l : List Tk} {s : StL} {p : Nat} {ops : List OpL} (h : isQ l p 1 ⟨#[76, 73, 77, 73, 84]⟩ = false) : limP l s p ops = .ok s p ops := by
 unfold limP; rw [if_neg (F_ h)]

theorem info9_Pba : (Tryd.prog.info? 9).map (fun i => (i.zero, i.size, i.bytes)) = some (some (.string ⟨#[]⟩), 1, 16) := by kernel_rfl

theorem pick_vx {br : Nat} {l : List Tk} (hl : l.length ≤ 100) (hm : (0, marksC) ∈ G) (hw : (2, wordsC) ∈ G) (hk : (5, cmpC) ∈ G) (ht : ∀ t ∈ l, t.s.size ≤ maxLen ∧ (t.k = 2 → 0 ≤ t.n ∧ t.n ≤ 9223372036854775807)) (p : Nat) (hp : p ≤ l.length) (os : List OpL) (R : Rs StL) (hR : R = pickP l p os) (ad : Option Addr) (n cap bs : Nat) : VX Tryd.prog G 48 [.v (.pointer (some ⟨br, 0, none⟩)), .v (.pointer (some ⟨bs, 0, none⟩))] [⟨br, 70, 3, [.list 3 (l.flatMap cT) l.length, .v (.int .i64 ((p : Nat) : Int)), .v (.slice ad n cap)]⟩, ⟨bs, 32, 12, [.v (.int .i64 4), .v (.string ⟨#[]⟩), .list 2 [] 0, .list 3 [] 0, .v (.slice none 0 0), .v (.bool false), .list 5 [] 0, .v (.string ⟨#[]⟩), .v (.bool false), .v (.int .i64 (-1)), .v (.string ⟨#[]⟩), .list 5 [] 0]⟩] (fun r S' => EndS br bs l R S') (PanX R) := by
 refine VX.body func48 rfl ntmps48 le_ fun X0 w0 S00 => ?_
 refine CD.cut (fun y__ => ∃ (hn : List ByteArray), ∃ (hb : Bool), ∃ (q : Nat), ∃ (os : List OpL), ∃ (ad : Option Addr), ∃ (n : Nat), ∃ (cap : Nat), (hn.length ≤ 6) ∧ (q ≤ l.length) ∧ (R = pickK l (hn, hb) q os) ∧ y__ = (⟨118, [(0, .v (.pointer (some ⟨br, 0, none⟩))), (1, .v (.pointer (some ⟨bs, 0, none⟩)))], [⟨br, 70, 3, [.list 3 (l.flatMap cT) l.length, .v (.int .i64 ((q : Nat) : Int)), .v (.slice ad n cap)]⟩, ⟨bs, 32, 12, [.v (.int .i64 4), .v (.string ⟨#[]⟩), .list 2 [] 0, .list 3 [] 0, .list 1 (hn.flatMap cS) hn.length, .v (.bool hb), .list 5 [] 0, .v (.string ⟨#[]⟩), .v (.bool false), .v (.int .i64 (-1)), .v (.string ⟨#[]⟩), .list 5 [] 0]⟩]⟩ : St)) ?_ ?_
 ·skip
  refine CD.block ?_
  refine CD.seq ?_
  refine CD.region ?_
  refine om_ ?_
  refine OD.call wp_ rfl rfl rfl call43 (eat_vc l hl p 4 ⟨#[42]⟩ ad n cap br) ⟨ot, opd_const, opd_const, trivial⟩ (List.Perm.refl _) ?_
  rintro _ _ ⟨rfl, rfl⟩
  refine OD.perm (S' := ⟨br, 70, 3, [.list 3 (l.flatMap cT) l.length, .v (.int .i64 (((if isQ l p 4 ⟨#[42]⟩ = true then p + 1 else p) : Nat) : Int)), .v (.slice ad n cap)]⟩ :: [⟨bs, 32, 12, [_, _, _, _, _, _, _, _, _, _, _, _]⟩]) (List.Perm.refl _) ?_
  refine om_ ?_
  refine on_ [(0, _), (1, _), (26, _)] [⟨br, 70, 3, [_, _, _]⟩, ⟨bs, 32, 12, [_, _, _, _, _, _, _, _, _, _, _, _]⟩] ?_
  refine CD.cond ot (fun hc0 => ?_) (fun hc0 => ?_)
  ·have hc0' := hc0
   (try simp only [V.cnd, ne_eq] at hc0')
   have et : isQ l p 4 ⟨#[42]⟩ = true := hc0
   rw [et]
   simp only [if_true]
   have hR1 : R = pickK l ([], false) (p + 1) os := hR.trans (head_1 et)
   refine CD.cells (k := 1) (cs' := [_, _, _, _, .list 1 [] 0, _, _, _, _, _, _, _]) (S' := [⟨br, 70, 3, [.list 3 (l.flatMap cT) l.length, .v (.int .i64 (((p + 1) : Nat) : Int)), .v (.slice ad n cap)]⟩, ⟨bs, 32, 12, [_, _, _, _, _, _, _, _, _, _, _, _]⟩]) rfl (by repeat (first | exact trivial | exact ⟨gv_rfl, trivial⟩ | exact ⟨gv_nil, trivial⟩ | refine ⟨gv_rfl, ?_⟩ | refine ⟨gv_nil, ?_⟩)) rfl ?_
   refine CD.skip ?_
   refine ⟨_, ?_, [], false, (p + 1), os, ad, n, cap, (by decide), (isQ_lt et), hR1, rfl⟩
   exact Wk.asS (n := 118) rfl (List.Sublist.refl _) sq_
  have hc0' := hc0
  (try simp only [V.cnd, ne_eq] at hc0')
  have ef : isQ l p 4 ⟨#[42]⟩ = false := hc0
  rw [ef]
  simp only [Bool.false_eq_true, if_false]
  refine sr_ ?_
  refine om_ ?_
  refine OD.call wp_ rfl rfl rfl call43 (eat_vc l hl p 1 ⟨#[67, 79, 85, 78, 84]⟩ ad n cap br) ⟨ot, opd_const, opd_const, trivial⟩ (List.Perm.refl _) ?_
  rintro _ _ ⟨rfl, rfl⟩
  refine OD.perm (S' := ⟨br, 70, 3, [.list 3 (l.flatMap cT) l.length, .v (.int .i64 (((if isQ l p 1 ⟨#[67, 79, 85, 78, 84]⟩ = true then p + 1 else p) : Nat) : Int)), .v (.slice ad n cap)]⟩ :: [⟨bs, 32, 12, [_, _, _, _, _, _, _, _, _, _, _, _]⟩]) (List.Perm.refl _) ?_
  refine om_ ?_
  refine on_ [(0, _), (1, _), (29, _)] [⟨br, 70, 3, [_, _, _]⟩, ⟨bs, 32, 12, [_, _, _, _, _, _, _, _, _, _, _, _]⟩] ?_
  refine CD.cond ot (fun hc1 => ?_) (fun hc1 => ?_)
  ·have hc1' := hc1
   (try simp only [V.cnd, ne_eq] at hc1')
   have e1t : isQ l p 1 ⟨#[67, 79, 85, 78, 84]⟩ = true := hc1
   rw [e1t]
   simp only [if_true]
   have hR2 : R = (markP l ⟨#[40]⟩ (p + 1) os).bind (fun _ p ops => (countR l p ops).bind (pickK l)) := hR.trans (head_2 ef e1t)
   refine CD.cells (k := 1) (cs' := [_, _, _, _, .list 1 [] 0, _, _, _, _, _, _, _]) (S' := [⟨br, 70, 3, [.list 3 (l.flatMap cT) l.length, .v (.int .i64 (((p + 1) : Nat) : Int)), .v (.slice ad n cap)]⟩, ⟨bs, 32, 12, [_, _, _, _, _, _, _, _, _, _, _, _]⟩]) rfl (by repeat (first | exact trivial | exact ⟨gv_rfl, trivial⟩ | exact ⟨gv_nil, trivial⟩ | refine ⟨gv_rfl, ?_⟩ | refine ⟨gv_nil, ?_⟩)) rfl ?_
   refine sr_ ?_
   refine om_ ?_
   refine OD.callX wp_ rfl rfl rfl call49 (mark_vx l hl (p + 1) ⟨#[40]⟩ ad n cap br) ⟨ot, opd_const, trivial⟩ (List.Perm.refl _) (fun ch hch => (Or.inr ⟨ch, rfl, ⟨_, _, hR2.trans (by rw [mark_no hch.1]; rfl), hch.2⟩⟩ : BodyX _ _ _ _ _ _)) ?_
   rintro _ _ ⟨hm3, rfl⟩
   refine OD.perm (S' := ⟨br, 70, 3, [.list 3 (l.flatMap cT) l.length, .v (.int .i64 ((((p + 1) + 1) : Nat) : Int)), .v (.slice ad n cap)]⟩ :: [⟨bs, 32, 12, [_, _, _, _, _, _, _, _, _, _, _, _]⟩]) (List.Perm.refl _) ?_
   have hR3 : R = (countR l ((p + 1) + 1) os).bind (pickK l) := hR2.trans (by rw [mark_yes hm3]; rfl)
   refine on_ [(0, _), (1, _)] [⟨br, 70, 3, [_, _, _]⟩, ⟨bs, 32, 12, [_, _, _, _, _, _, _, _, _, _, _, _]⟩] ?_
   refine CD.seq ?_
   have hR4 : R = (markP l ⟨#[42]⟩ ((p + 1) + 1) os).bind (fun _ p ops => (countR2 l p ops).bind (pickK l)) := hR3.trans (count_1)
   refine CD.region ?_
   refine om_ ?_
   refine OD.callX wp_ rfl rfl rfl call49 (mark_vx l hl ((p + 1) + 1) ⟨#[42]⟩ ad n cap br) ⟨ot, opd_const, trivial⟩ (List.Perm.refl _) (fun ch hch => (Or.inr ⟨ch, rfl, ⟨_, _, hR4.trans (by rw [mark_no hch.1]; rfl), hch.2⟩⟩ : BodyX _ _ _ _ _ _)) ?_
   rintro _ _ ⟨hm5, rfl⟩
   refine OD.perm (S' := ⟨br, 70, 3, [.list 3 (l.flatMap cT) l.length, .v (.int .i64 (((((p + 1) + 1) + 1) : Nat) : Int)), .v (.slice ad n cap)]⟩ :: [⟨bs, 32, 12, [_, _, _, _, _, _, _, _, _, _, _, _]⟩]) (List.Perm.refl _) ?_
   have hR5 : R = (countR2 l (((p + 1) + 1) + 1) os).bind (pickK l) := hR4.trans (by rw [mark_yes hm5]; rfl)
   refine on_ [(0, _), (1, _)] [⟨br, 70, 3, [_, _, _]⟩, ⟨bs, 32, 12, [_, _, _, _, _, _, _, _, _, _, _, _]⟩] ?_
   refine CD.seq ?_
   have hR6 : R = (markP l ⟨#[41]⟩ (((p + 1) + 1) + 1) os).bind (fun _ p ops => pickK l ([], true) p ops) := hR5.trans (count_2)
   refine CD.region ?_
   refine om_ ?_
   refine OD.callX wp_ rfl rfl rfl call49 (mark_vx l hl (((p + 1) + 1) + 1) ⟨#[41]⟩ ad n cap br) ⟨ot, opd_const, trivial⟩ (List.Perm.refl _) (fun ch hch => (Or.inr ⟨ch, rfl, ⟨_, _, hR6.trans (by rw [mark_no hch.1]; rfl), hch.2⟩⟩ : BodyX _ _ _ _ _ _)) ?_
   rintro _ _ ⟨hm7, rfl⟩
   refine OD.perm (S' := ⟨br, 70, 3, [.list 3 (l.flatMap cT) l.length, .v (.int .i64 ((((((p + 1) + 1) + 1) + 1) : Nat) : Int)), .v (.slice ad n cap)]⟩ :: [⟨bs, 32, 12, [_, _, _, _, _, _, _, _, _, _, _, _]⟩]) (List.Perm.refl _) ?_
   have hR7 : R = pickK l ([], true) ((((p + 1) + 1) + 1) + 1) os := hR6.trans (by rw [mark_yes hm7]; rfl)
   refine on_ [(0, _), (1, _)] [⟨br, 70, 3, [_, _, _]⟩, ⟨bs, 32, 12, [_, _, _, _, _, _, _, _, _, _, _, _]⟩] ?_
   refine CD.region ?_
   refine om_ ?_
   refine os_ nc_ ?_
   refine os_ (fa_ 5) ?_
   refine ot_ 1 [_, _, _, _, _, _, _, _, _, _, _, _] sizeOf4 ?_
   refine on_ [(0, _), (1, _)] [⟨br, 70, 3, [_, _, _]⟩, ⟨bs, 32, 12, [_, _, _, _, _, _, _, _, _, _, _, _]⟩] ?_
   refine ⟨_, ?_, [], true, ((((p + 1) + 1) + 1) + 1), os, ad, n, cap, (by decide), (isQ_lt hm7), hR7, rfl⟩
   exact Wk.asS (n := 118) rfl (List.Sublist.refl _) sq_
  have hc1' := hc1
  (try simp only [V.cnd, ne_eq] at hc1')
  have e1f : isQ l p 1 ⟨#[67, 79, 85, 78, 84]⟩ = false := hc1
  rw [e1f]
  simp only [Bool.false_eq_true, if_false]
  have hR8 : R = (namesP l 8 [] p os).bind (fun ns p ops => pickK l (ns, false) p ops) := hR.trans (head_3 ef e1f)
  refine CD.block ?_
  refine lp_ (fun (gh__ : Nat × List ByteArray × Nat × Option Addr × Nat × List Blk) y__ => match gh__ with | (f, out, q, ado, cpo, So) => (f + out.length = 8) ∧ (out.length ≤ 6) ∧ (q ≤ l.length) ∧ (R = (namesP l f out q os).bind fun ns p ops => pickK l (ns, false) p ops) ∧ (OwnL 9 1 ((out).flatMap cS) (out).length ado cpo So) ∧ y__ = (⟨118, [(0, .v (.pointer (some ⟨br, 0, none⟩))), (1, .v (.pointer (some ⟨bs, 0, none⟩)))], (⟨br, 70, 3, [.list 3 (l.flatMap cT) l.length, .v (.int .i64 ((q : Nat) : Int)), .v (.slice ad n cap)]⟩ :: ⟨bs, 32, 12, [.v (.int .i64 4), .v (.string ⟨#[]⟩), .list 2 [] 0, .list 3 [] 0, .v (.slice ado out.length cpo), .v (.bool false), .list 5 [] 0, .v (.string ⟨#[]⟩), .v (.bool false), .v (.int .i64 (-1)), .v (.string ⟨#[]⟩), .list 5 [] 0]⟩ :: So)⟩ : St)) (fun (gh__ : Nat × List ByteArray × Nat × Option Addr × Nat × List Blk) => match gh__ with | (f, out, q, ado, cpo, So) => f) (8, [], p, none, 0, []) ⟨rfl, (by decide), hp, hR8, (OwnL.cast ownL_nil (by rfl)), rfl⟩ (Wk.asS rfl su_ (by repeat (first | exact trivial | refine ⟨(by (repeat (first | exact look_hit | (apply look_at; focus (first | rfl | (simp; done) | (congr 2; omega) | (apply row_eq; rfl) | (apply row_eq; rfl) | (apply row_eq; simp; done))) | (apply look_miss; focus rfl))); done), ?_⟩))) ?_
  rintro ⟨f, out, q, ado, cpo, So⟩ _ ⟨hfo, ho6, hpl, hRl, hoo, rfl⟩
  rcases f with _ | f
  ·omega
  refine CD.block ?_
  refine CD.seq ?_
  refine sr_ ?_
  refine om_ ?_
  refine os_ nc_ ?_
  refine os_ (fa_ 4) ?_
  refine os_ (lb_ 1) ?_
  refine os_ ln_ ?_
  refine os_ bn_ ?_
  refine nm_ [0, 1, 9] ?_
  refine CD.cond ot (fun hc2 => ?_) (fun hc2 => ?_)
  ·have hc2' := hc2
   (try simp only [V.cnd, ne_eq] at hc2')
   have h6 : out.length = 6 := by simp at hc2; omega
   have hR9 : R = gv l q 10 := hRl.trans (by rw [namesP, if_pos h6]; rfl)
   refine CD.region ?_
   refine om_ ?_
   exact OD.callX wp_ rfl rfl rfl call26 (give_vx l hl q 10 ad n cap br) ⟨ot, opd_const, trivial⟩ (List.Perm.refl _) (fun ch hch => (Or.inr ⟨ch, rfl, ⟨_, _, hR9, hch⟩⟩ : BodyX _ _ _ _ _ _)) (fun r S' h => h.elim)
  have hc2' := hc2
  (try simp only [V.cnd, ne_eq] at hc2')
  have h6 : ¬ out.length = 6 := by simp at hc2; omega
  have hR10 : R = (nameP l q os).bind (fun s p1 ops1 => (if isQ l p1 4 ⟨#[44]⟩ = true then namesP l f (out ++ [s]) (p1 + 1) ops1 else .ok (out ++ [s]) p1 ops1).bind fun ns p ops => pickK l (ns, false) p ops) := hRl.trans (names_1 h6)
  refine CD.skip ?_
  refine CD.seq ?_
  refine CD.draw (bks (List.take 0 _)) kr_ (fun _ h => (List.Sublist.map _ (List.take_sublist _ _)).subset h) ?_
  refine a0_ 0 rfl mv_ ?_
  refine a0_ 1 rfl mv_ ?_
  refine a0_ 2 rfl nc_ ?_
  refine a0_ 3 rfl (fa_ 4) ?_
  refine a0_ 5 rfl mv_ ?_
  refine AD0.later rfl ?_
  refine AD.two (i := 4) (j := 6) kr_ ?_ ?_
  ·skip
   refine at_ rfl (lb_ 1) ?_
   refine AD.one (i := 6) kr_ ?_
   refine AStep.callX rfl wp_ rfl rfl rfl call45 (name_vx hm hw l hl ht q ad n cap br) ⟨ot, trivial⟩ (List.Perm.refl _) (by intro b hb; cases hb) (fun ch hch => (Or.inr ⟨ch, rfl, by obtain ⟨q, e, h1, h2⟩ := hch; exact ⟨q, e, hR10.trans (by rw [h1]; rfl), h2⟩⟩ : BodyX _ _ _ _ _ _)) ?_
   rintro _ _ ⟨s, hr12, rfl, rfl⟩
   refine AD.perm (S' := ⟨br, 70, 3, [.list 3 (l.flatMap cT) l.length, .v (.int .i64 (((q + 1) : Nat) : Int)), .v (.slice ad n cap)]⟩ :: ⟨bs, 32, 12, [_, _, _, _, _, _, _, _, _, _, _, _]⟩ :: So) (List.Perm.refl _) ?_
   have hlt12 := (name_le (hr12 [])).2.2
   have hR12 : R = (if isQ l (q + 1) 4 ⟨#[44]⟩ = true then namesP l f (out ++ [s]) ((q + 1) + 1) os else .ok (out ++ [s]) (q + 1) os).bind fun ns p ops => pickK l (ns, false) p ops := hR10.trans (by rw [hr12]; rfl)
   refine AD.one (i := 7) kr_ ?_
   refine ab_ (numD 0 [_]) [.string ⟨#[]⟩] [_] zeroValue9 runUnderlying29 sizeOf9 (fun b19 => ?_)
   refine ag_ 0 19 1 1 ?_
   refine AD.one (i := 8) kr_ ?_
   refine AStep.appendG (hT := by intro b hb; cases hb) (ls := (out)) (new := [s]) (Sq := So) cS_len cS_one rfl wp_ rfl rfl underlying29 info9_Pba rfl (by decide) ot hoo (perm_r11 (A := [_, _])) ot (by simp) (by simp only [maxLen, List.length_append, List.length_cons, List.length_nil] at *; omega) (by simp only [maxLen, List.length_append, List.length_cons, List.length_nil] at *; omega) (fun b20 cp20 h120 h220 => ?_)
   refine AD.perm (perm_q11 (S1 := [⟨b20, 9, cp20 * 1, List.flatMap cS ((out) ++ [s])⟩]) (A := [_, _])) ?_
   refine a1_ 9 rfl nc_ ?_
   refine a1_ 10 rfl (fa_ 4) ?_
   refine AD.one (i := 11) kr_ ?_
   refine AStep.store (k := 1) (cs' := [_, _, _, _, _, _, _, _, _, _, _, _]) rfl wp_ rfl rfl ot rfl rfl ot rfl rfl sizeOf29 rfl rfl rfl (by intro b hb; simp [bks, St.put] at hb ⊢; try first | exact hb | simp [hb] | (rcases hb with hb | hb <;> simp [hb]) | (rcases hb with hb | hb | hb <;> simp [hb])) ?_
   refine AD.wk (y := ⟨118, [(0, _), (1, _)], (⟨br, 70, 3, [_, _, _]⟩ :: ⟨bs, 32, 12, [_, _, _, _, _, _, _, _, _, _, _, _]⟩ :: [⟨b20, 9, cp20 * 1, List.flatMap cS ((out) ++ [s])⟩])⟩) (Wk.as_ rfl rfl sl_) rfl ?_
   refine AD.done kr_ ?_
   refine sr_ ?_
   refine om_ ?_
   refine OD.call wp_ rfl rfl rfl call43 (eat_vc l hl (q + 1) 4 ⟨#[44]⟩ ad n cap br) ⟨ot, opd_const, opd_const, trivial⟩ (List.Perm.refl _) ?_
   rintro _ _ ⟨rfl, rfl⟩
   refine OD.perm (S' := ⟨br, 70, 3, [.list 3 (l.flatMap cT) l.length, .v (.int .i64 (((if isQ l (q + 1) 4 ⟨#[44]⟩ = true then (q + 1) + 1 else (q + 1)) : Nat) : Int)), .v (.slice ad n cap)]⟩ :: ⟨bs, 32, 12, [_, _, _, _, _, _, _, _, _, _, _, _]⟩ :: [⟨b20, 9, cp20 * 1, List.flatMap cS ((out) ++ [s])⟩]) (List.Perm.refl _) ?_
   refine os_ un_ ?_
   refine OD.wk (Wk.as_ (n := 118) (l' := [(0, _), (1, _), (25, _)]) (S' := (⟨br, 70, 3, [_, _, _]⟩ :: ⟨bs, 32, 12, [_, _, _, _, _, _, _, _, _, _, _, _]⟩ :: [⟨b20, 9, cp20 * 1, List.flatMap cS ((out) ++ [s])⟩])) rfl rfl sl_) ?_
   refine OD.nil ?_
   refine CD.cond ot (fun hc3 => ?_) (fun hc3 => ?_)
   ·have hc3' := hc3
    (try simp only [V.cnd, ne_eq] at hc3')
    have ef : isQ l (q + 1) 4 ⟨#[44]⟩ = false := by simpa using hc3
    rw [ef]
    simp only [Bool.false_eq_true, if_false]
    have hR13 : R = pickK l (out ++ [s], false) (q + 1) os := hR12.trans (by rw [if_neg (F_ ef)]; rfl)
    refine CD.giveCell (i := 4) (j := 1) (S' := [⟨br, 70, 3, [.list 3 (l.flatMap cT) l.length, .v (.int .i64 (((q + 1) : Nat) : Int)), .v (.slice ad n cap)]⟩, ⟨bs, 32, 12, [_, _, _, _, _, _, _, _, _, _, _, _]⟩]) (ownL_row h120 h220) (fm_len cS_len _) (perm_r11 (A := [_, _])) rfl rfl rfl rfl ?_
    refine CD.exit ?_
    refine ⟨_, ?_, (out ++ [s]), false, (q + 1), os, ad, n, cap, (by simp; omega), hlt12, hR13, rfl⟩
    exact Wk.asS (n := 118) rfl (List.Sublist.refl _) sq_
   have hc3' := hc3
   (try simp only [V.cnd, ne_eq] at hc3')
   have et : isQ l (q + 1) 4 ⟨#[44]⟩ = true := by simpa using hc3
   rw [et]
   simp only [if_true]
   have hR14 : R = (namesP l f (out ++ [s]) ((q + 1) + 1) os).bind fun ns p ops => pickK l (ns, false) p ops := hR12.trans (by rw [if_pos et])
   refine CD.skip ?_
   refine ⟨(f, (out ++ [s]), ((q + 1) + 1), (some ⟨b20, 0, none⟩), cp20, [⟨b20, 9, cp20 * 1, List.flatMap cS ((out) ++ [s])⟩]), _, ?_, ?_, (by simp; omega), (by simp; omega), (isQ_lt et), hR14, (OwnL.cast (ownL_row h120 h220) (by rfl)), rfl⟩
   ·first | omega | (simp only []; omega)
   exact Wk.asS (n := 118) rfl su_ (by repeat (first | exact trivial | refine ⟨(by (repeat (first | exact look_hit | (apply look_at; focus (first | rfl | (simp; done) | (congr 2; omega) | (apply row_eq; rfl) | (apply row_eq; rfl) | (apply row_eq; simp; done))) | (apply look_miss; focus rfl))); done), ?_⟩))
  refine AStep.callX rfl wp_ rfl rfl rfl call45 (name_vx hm hw l hl ht q ad n cap br) ⟨ot, trivial⟩ (List.Perm.refl _) (by intro b hb; cases hb) (fun ch hch => (Or.inr ⟨ch, rfl, by obtain ⟨q, e, h1, h2⟩ := hch; exact ⟨q, e, hR10.trans (by rw [h1]; rfl), h2⟩⟩ : BodyX _ _ _ _ _ _)) ?_
  rintro _ _ ⟨s, hr16, rfl, rfl⟩
  refine AD.perm (S' := ⟨br, 70, 3, [.list 3 (l.flatMap cT) l.length, .v (.int .i64 (((q + 1) : Nat) : Int)), .v (.slice ad n cap)]⟩ :: ⟨bs, 32, 12, [_, _, _, _, _, _, _, _, _, _, _, _]⟩ :: So) (List.Perm.refl _) ?_
  have hlt16 := (name_le (hr16 [])).2.2
  have hR16 : R = (if isQ l (q + 1) 4 ⟨#[44]⟩ = true then namesP l f (out ++ [s]) ((q + 1) + 1) os else .ok (out ++ [s]) (q + 1) os).bind fun ns p ops => pickK l (ns, false) p ops := hR10.trans (by rw [hr16]; rfl)
  refine AD.two (i := 4) (j := 7) kr_ ?_ ?_
  ·skip
   refine at_ rfl (lb_ 1) ?_
   refine AD.one (i := 7) kr_ ?_
   refine ab_ (numD 0 [_]) [.string ⟨#[]⟩] [_] zeroValue9 runUnderlying29 sizeOf9 (fun b19 => ?_)
   refine ag_ 0 19 1 1 ?_
   refine AD.one (i := 8) kr_ ?_
   refine AStep.appendG (hT := by intro b hb; cases hb) (ls := (out)) (new := [s]) (Sq := So) cS_len cS_one rfl wp_ rfl rfl underlying29 info9_Pba rfl (by decide) ot hoo (perm_r11 (A := [_, _])) ot (by simp) (by simp only [maxLen, List.length_append, List.length_cons, List.length_nil] at *; omega) (by simp only [maxLen, List.length_append, List.length_cons, List.length_nil] at *; omega) (fun b20 cp20 h120 h220 => ?_)
   refine AD.perm (perm_q11 (S1 := [⟨b20, 9, cp20 * 1, List.flatMap cS ((out) ++ [s])⟩]) (A := [_, _])) ?_
   refine a1_ 9 rfl nc_ ?_
   refine a1_ 10 rfl (fa_ 4) ?_
   refine AD.one (i := 11) kr_ ?_
   refine AStep.store (k := 1) (cs' := [_, _, _, _, _, _, _, _, _, _, _, _]) rfl wp_ rfl rfl ot rfl rfl ot rfl rfl sizeOf29 rfl rfl rfl (by intro b hb; simp [bks, St.put] at hb ⊢; try first | exact hb | simp [hb] | (rcases hb with hb | hb <;> simp [hb]) | (rcases hb with hb | hb | hb <;> simp [hb])) ?_
   refine AD.wk (y := ⟨118, [(0, _), (1, _)], (⟨br, 70, 3, [_, _, _]⟩ :: ⟨bs, 32, 12, [_, _, _, _, _, _, _, _, _, _, _, _]⟩ :: [⟨b20, 9, cp20 * 1, List.flatMap cS ((out) ++ [s])⟩])⟩) (Wk.as_ rfl rfl sl_) rfl ?_
   refine AD.done kr_ ?_
   refine sr_ ?_
   refine om_ ?_
   refine OD.call wp_ rfl rfl rfl call43 (eat_vc l hl (q + 1) 4 ⟨#[44]⟩ ad n cap br) ⟨ot, opd_const, opd_const, trivial⟩ (List.Perm.refl _) ?_
   rintro _ _ ⟨rfl, rfl⟩
   refine OD.perm (S' := ⟨br, 70, 3, [.list 3 (l.flatMap cT) l.length, .v (.int .i64 (((if isQ l (q + 1) 4 ⟨#[44]⟩ = true then (q + 1) + 1 else (q + 1)) : Nat) : Int)), .v (.slice ad n cap)]⟩ :: ⟨bs, 32, 12, [_, _, _, _, _, _, _, _, _, _, _, _]⟩ :: [⟨b20, 9, cp20 * 1, List.flatMap cS ((out) ++ [s])⟩]) (List.Perm.refl _) ?_
   refine os_ un_ ?_
   refine OD.wk (Wk.as_ (n := 118) (l' := [(0, _), (1, _), (25, _)]) (S' := (⟨br, 70, 3, [_, _, _]⟩ :: ⟨bs, 32, 12, [_, _, _, _, _, _, _, _, _, _, _, _]⟩ :: [⟨b20, 9, cp20 * 1, List.flatMap cS ((out) ++ [s])⟩])) rfl rfl sl_) ?_
   refine OD.nil ?_
   refine CD.cond ot (fun hc3 => ?_) (fun hc3 => ?_)
   ·have hc3' := hc3
    (try simp only [V.cnd, ne_eq] at hc3')
    have ef : isQ l (q + 1) 4 ⟨#[44]⟩ = false := by simpa using hc3
    rw [ef]
    simp only [Bool.false_eq_true, if_false]
    have hR17 : R = pickK l (out ++ [s], false) (q + 1) os := hR16.trans (by rw [if_neg (F_ ef)]; rfl)
    refine CD.giveCell (i := 4) (j := 1) (S' := [⟨br, 70, 3, [.list 3 (l.flatMap cT) l.length, .v (.int .i64 (((q + 1) : Nat) : Int)), .v (.slice ad n cap)]⟩, ⟨bs, 32, 12, [_, _, _, _, _, _, _, _, _, _, _, _]⟩]) (ownL_row h120 h220) (fm_len cS_len _) (perm_r11 (A := [_, _])) rfl rfl rfl rfl ?_
    refine CD.exit ?_
    refine ⟨_, ?_, (out ++ [s]), false, (q + 1), os, ad, n, cap, (by simp; omega), hlt16, hR17, rfl⟩
    exact Wk.asS (n := 118) rfl (List.Sublist.refl _) sq_
   have hc3' := hc3
   (try simp only [V.cnd, ne_eq] at hc3')
   have et : isQ l (q + 1) 4 ⟨#[44]⟩ = true := by simpa using hc3
   rw [et]
   simp only [if_true]
   have hR18 : R = (namesP l f (out ++ [s]) ((q + 1) + 1) os).bind fun ns p ops => pickK l (ns, false) p ops := hR16.trans (by rw [if_pos et])
   refine CD.skip ?_
   refine ⟨(f, (out ++ [s]), ((q + 1) + 1), (some ⟨b20, 0, none⟩), cp20, [⟨b20, 9, cp20 * 1, List.flatMap cS ((out) ++ [s])⟩]), _, ?_, ?_, (by simp; omega), (by simp; omega), (isQ_lt et), hR18, (OwnL.cast (ownL_row h120 h220) (by rfl)), rfl⟩
   ·first | omega | (simp only []; omega)
   exact Wk.asS (n := 118) rfl su_ (by repeat (first | exact trivial | refine ⟨(by (repeat (first | exact look_hit | (apply look_at; focus (first | rfl | (simp; done) | (congr 2; omega) | (apply row_eq; rfl) | (apply row_eq; rfl) | (apply row_eq; simp; done))) | (apply look_miss; focus rfl))); done), ?_⟩))
  refine ab_ (numD 0 [_]) [.string ⟨#[]⟩] [_] zeroValue9 runUnderlying29 sizeOf9 (fun b19 => ?_)
  refine ag_ 0 19 1 1 ?_
  refine AD.one (i := 4) kr_ ?_
  refine at_ rfl (lb_ 1) ?_
  refine AD.one (i := 8) kr_ ?_
  refine AStep.appendG (hT := by intro b hb; cases hb) (ls := (out)) (new := [s]) (Sq := So) cS_len cS_one rfl wp_ rfl rfl underlying29 info9_Pba rfl (by decide) ot hoo (perm_r11 (A := [_, _])) ot (by simp) (by simp only [maxLen, List.length_append, List.length_cons, List.length_nil] at *; omega) (by simp only [maxLen, List.length_append, List.length_cons, List.length_nil] at *; omega) (fun b20 cp20 h120 h220 => ?_)
  refine AD.perm (perm_q11 (S1 := [⟨b20, 9, cp20 * 1, List.flatMap cS ((out) ++ [s])⟩]) (A := [_, _])) ?_
  refine a1_ 9 rfl nc_ ?_
  refine a1_ 10 rfl (fa_ 4) ?_
  refine AD.one (i := 11) kr_ ?_
  refine AStep.store (k := 1) (cs' := [_, _, _, _, _, _, _, _, _, _, _, _]) rfl wp_ rfl rfl ot rfl rfl ot rfl rfl sizeOf29 rfl rfl rfl (by intro b hb; simp [bks, St.put] at hb ⊢; try first | exact hb | simp [hb] | (rcases hb with hb | hb <;> simp [hb]) | (rcases hb with hb | hb | hb <;> simp [hb])) ?_
  refine AD.wk (y := ⟨118, [(0, _), (1, _)], (⟨br, 70, 3, [_, _, _]⟩ :: ⟨bs, 32, 12, [_, _, _, _, _, _, _, _, _, _, _, _]⟩ :: [⟨b20, 9, cp20 * 1, List.flatMap cS ((out) ++ [s])⟩])⟩) (Wk.as_ rfl rfl sl_) rfl ?_
  refine AD.done kr_ ?_
  refine sr_ ?_
  refine om_ ?_
  refine OD.call wp_ rfl rfl rfl call43 (eat_vc l hl (q + 1) 4 ⟨#[44]⟩ ad n cap br) ⟨ot, opd_const, opd_const, trivial⟩ (List.Perm.refl _) ?_
  rintro _ _ ⟨rfl, rfl⟩
  refine OD.perm (S' := ⟨br, 70, 3, [.list 3 (l.flatMap cT) l.length, .v (.int .i64 (((if isQ l (q + 1) 4 ⟨#[44]⟩ = true then (q + 1) + 1 else (q + 1)) : Nat) : Int)), .v (.slice ad n cap)]⟩ :: ⟨bs, 32, 12, [_, _, _, _, _, _, _, _, _, _, _, _]⟩ :: [⟨b20, 9, cp20 * 1, List.flatMap cS ((out) ++ [s])⟩]) (List.Perm.refl _) ?_
  refine os_ un_ ?_
  refine OD.wk (Wk.as_ (n := 118) (l' := [(0, _), (1, _), (25, _)]) (S' := (⟨br, 70, 3, [_, _, _]⟩ :: ⟨bs, 32, 12, [_, _, _, _, _, _, _, _, _, _, _, _]⟩ :: [⟨b20, 9, cp20 * 1, List.flatMap cS ((out) ++ [s])⟩])) rfl rfl sl_) ?_
  refine OD.nil ?_
  refine CD.cond ot (fun hc3 => ?_) (fun hc3 => ?_)
  ·have hc3' := hc3
   (try simp only [V.cnd, ne_eq] at hc3')
   have ef : isQ l (q + 1) 4 ⟨#[44]⟩ = false := by simpa using hc3
   rw [ef]
   simp only [Bool.false_eq_true, if_false]
   have hR19 : R = pickK l (out ++ [s], false) (q + 1) os := hR16.trans (by rw [if_neg (F_ ef)]; rfl)
   refine CD.giveCell (i := 4) (j := 1) (S' := [⟨br, 70, 3, [.list 3 (l.flatMap cT) l.length, .v (.int .i64 (((q + 1) : Nat) : Int)), .v (.slice ad n cap)]⟩, ⟨bs, 32, 12, [_, _, _, _, _, _, _, _, _, _, _, _]⟩]) (ownL_row h120 h220) (fm_len cS_len _) (perm_r11 (A := [_, _])) rfl rfl rfl rfl ?_
   refine CD.exit ?_
   refine ⟨_, ?_, (out ++ [s]), false, (q + 1), os, ad, n, cap, (by simp; omega), hlt16, hR19, rfl⟩
   exact Wk.asS (n := 118) rfl (List.Sublist.refl _) sq_
  have hc3' := hc3
  (try simp only [V.cnd, ne_eq] at hc3')
  have et : isQ l (q + 1) 4 ⟨#[44]⟩ = true := by simpa using hc3
  rw [et]
  simp only [if_true]
  have hR20 : R = (namesP l f (out ++ [s]) ((q + 1) + 1) os).bind fun ns p ops => pickK l (ns, false) p ops := hR16.trans (by rw [if_pos et])
  refine CD.skip ?_
  refine ⟨(f, (out ++ [s]), ((q + 1) + 1), (some ⟨b20, 0, none⟩), cp20, [⟨b20, 9, cp20 * 1, List.flatMap cS ((out) ++ [s])⟩]), _, ?_, ?_, (by simp; omega), (by simp; omega), (isQ_lt et), hR20, (OwnL.cast (ownL_row h120 h220) (by rfl)), rfl⟩
  ·first | omega | (simp only []; omega)
  exact Wk.asS (n := 118) rfl su_ (by repeat (first | exact trivial | refine ⟨(by (repeat (first | exact look_hit | (apply look_at; focus (first | rfl | (simp; done) | (congr 2; omega) | (apply row_eq; rfl) | (apply row_eq; rfl) | (apply row_eq; simp; done))) | (apply look_miss; focus rfl))); done), ?_⟩))
 rintro _ ⟨hn, hb, q, os, ad, n, cap, hn6, hpl, hRl, rfl⟩
 refine CD.seq ?_
 have hR21 : R = (mustP l [⟨#[70, 82, 79, 77]⟩] q os).bind (fun _ p ops => (nameP l p ops).bind fun t p ops => (whereP l p ops).bind fun w p ops => tailP l { st0 with kind := 4, names := hn, count := hb, table := t, wher := w } p ops) := hRl.trans (rfl)
 refine CD.region ?_
 refine om_ ?_
 refine ob_ (numD 0 [_]) [.string ⟨#[]⟩] [_] zeroValue9 runUnderlying29 sizeOf9 (fun b42 => ?_)
 refine og_ 0 42 1 1 ?_
 refine OD.callX wp_ rfl rfl rfl call44 (must_vx l hl [⟨#[70, 82, 79, 77]⟩] (by decide) q ad n cap br) ⟨ot, by exact rfl, trivial⟩ (List.Perm.refl _) (fun ch hch => (Or.inr ⟨ch, rfl, by obtain ⟨q, e, h1, h2⟩ := hch; exact ⟨q, e, hR21.trans (by rw [h1]; rfl), h2⟩⟩ : BodyX _ _ _ _ _ _)) ?_
 rintro _ _ ⟨p22, hr22, rfl⟩
 refine OD.perm (S' := ⟨br, 70, 3, [.list 3 (l.flatMap cT) l.length, .v (.int .i64 ((p22 : Nat) : Int)), .v (.slice ad n cap)]⟩ :: [⟨bs, 32, 12, [_, _, _, _, _, _, _, _, _, _, _, _]⟩]) (List.Perm.refl _) ?_
 have hp22 := (must_le (hr22 []) hpl).2.1
 have hR22 : R = (nameP l p22 os).bind (fun t p ops => (whereP l p ops).bind fun w p ops => tailP l { st0 with kind := 4, names := hn, count := hb, table := t, wher := w } p ops) := hR21.trans (by rw [hr22]; rfl)
 refine on_ [(0, _), (1, _)] [⟨br, 70, 3, [_, _, _]⟩, ⟨bs, 32, 12, [_, _, _, _, _, _, _, _, _, _, _, _]⟩] ?_
 refine sr_ ?_
 refine om_ ?_
 refine om_ ?_
 refine OD.callX wp_ rfl rfl rfl call45 (name_vx hm hw l hl ht p22 ad n cap br) ⟨ot, trivial⟩ (List.Perm.refl _) (fun ch hch => (Or.inr ⟨ch, rfl, by obtain ⟨q, e, h1, h2⟩ := hch; exact ⟨q, e, hR22.trans (by rw [h1]; rfl), h2⟩⟩ : BodyX _ _ _ _ _ _)) ?_
 rintro _ _ ⟨t, hr23, rfl, rfl⟩
 refine OD.perm (S' := ⟨br, 70, 3, [.list 3 (l.flatMap cT) l.length, .v (.int .i64 (((p22 + 1) : Nat) : Int)), .v (.slice ad n cap)]⟩ :: [⟨bs, 32, 12, [_, _, _, _, _, _, _, _, _, _, _, _]⟩]) (List.Perm.refl _) ?_
 have hlt23 := (name_le (hr23 [])).2.2
 have hR23 : R = (whereP l (p22 + 1) os).bind (fun w p ops => tailP l { st0 with kind := 4, names := hn, count := hb, table := t, wher := w } p ops) := hR22.trans (by rw [hr23]; rfl)
 refine os_ nc_ ?_
 refine os_ (fa_ 1) ?_
 refine ot_ 1 [_, _, _, _, _, _, _, _, _, _, _, _] sizeOf9 ?_
 refine on_ [(0, _), (1, _)] [⟨br, 70, 3, [_, _, _]⟩, ⟨bs, 32, 12, [_, _, _, _, _, _, _, _, _, _, _, _]⟩] ?_
 refine sr_ ?_
 refine om_ ?_
 refine om_ ?_
 have hs24 := (ns_where : whereP l (p22 + 1) os ≠ .stuck)
 refine OD.callX wp_ rfl rfl rfl call51 (where_vx hl hm hw hk ht (p22 + 1) hlt23 os _ rfl hs24 ad n cap) ⟨ot, trivial⟩ (List.Perm.refl _) (fun ch hch => (Or.inr ⟨ch, rfl, by obtain ⟨q, e, h1, h2⟩ := hch; exact ⟨q, e, hR23.trans (by rw [h1]; rfl), h2⟩⟩ : BodyX _ _ _ _ _ _)) ?_
 rintro _ _ ⟨w, p24, o24, ad24, n24, cap24, hr24, ⟨rfl, hv24⟩, hp24, rfl⟩
 refine OD.perm (S' := ⟨br, 70, 3, [.list 3 (l.flatMap cT) l.length, .v (.int .i64 ((p24 : Nat) : Int)), .v (.slice ad24 n24 cap24)]⟩ :: [⟨bs, 32, 12, [_, _, _, _, _, _, _, _, _, _, _, _]⟩]) (List.Perm.refl _) ?_
 have hR24 : R = tailP l { st0 with kind := 4, names := hn, count := hb, table := t, wher := w } p24 o24 := hR23.trans (by rw [hr24]; rfl)
 refine os_ nc_ ?_
 refine os_ (fa_ 6) ?_
 refine ot_ 1 [_, _, _, _, _, _, _, _, _, _, _, _] sizeOf30 ?_
 refine on_ [(0, _), (1, _)] [⟨br, 70, 3, [_, _, _]⟩, ⟨bs, 32, 12, [_, _, _, _, _, _, _, _, _, _, _, _]⟩] ?_
 refine CD.cut (fun y__ => ∃ (s : StL), ∃ (q : Nat), ∃ (os : List OpL), ∃ (ad : Option Addr), ∃ (n : Nat), ∃ (cap : Nat), (okS s) ∧ (q ≤ l.length) ∧ (R = limP l s q os) ∧ y__ = (⟨118, [(0, .v (.pointer (some ⟨br, 0, none⟩))), (1, .v (.pointer (some ⟨bs, 0, none⟩)))], [⟨br, 70, 3, [.list 3 (l.flatMap cT) l.length, .v (.int .i64 ((q : Nat) : Int)), .v (.slice ad n cap)]⟩, ⟨bs, 32, 12, [.v (.int .i64 s.kind), .v (.string s.table), .list 2 (s.cols.flatMap cC) s.cols.length, .list 3 (s.row.flatMap cV) s.row.length, .list 1 (s.names.flatMap cS) s.names.length, .v (.bool s.count), .list 5 (s.wher.flatMap cO) s.wher.length, .v (.string s.order), .v (.bool s.down), .v (.int .i64 s.limit), .v (.string s.set), .list 5 (s.to.flatMap cO) s.to.length]⟩]⟩ : St)) ?_ ?_
 ·skip
  refine sr_ ?_
  refine om_ ?_
  refine OD.call wp_ rfl rfl rfl call43 (eat_vc l hl p24 1 ⟨#[79, 82, 68, 69, 82]⟩ ad24 n24 cap24 br) ⟨ot, opd_const, opd_const, trivial⟩ (List.Perm.refl _) ?_
  rintro _ _ ⟨rfl, rfl⟩
  refine OD.perm (S' := ⟨br, 70, 3, [.list 3 (l.flatMap cT) l.length, .v (.int .i64 (((if isQ l p24 1 ⟨#[79, 82, 68, 69, 82]⟩ = true then p24 + 1 else p24) : Nat) : Int)), .v (.slice ad24 n24 cap24)]⟩ :: [⟨bs, 32, 12, [_, _, _, _, _, _, _, _, _, _, _, _]⟩]) (List.Perm.refl _) ?_
  refine on_ [(0, _), (1, _), (55, _)] [⟨br, 70, 3, [_, _, _]⟩, ⟨bs, 32, 12, [_, _, _, _, _, _, _, _, _, _, _, _]⟩] ?_
  refine CD.cond ot (fun hc4 => ?_) (fun hc4 => ?_)
  ·have hc4' := hc4
   (try simp only [V.cnd, ne_eq] at hc4')
   have e4t : isQ l p24 1 ⟨#[79, 82, 68, 69, 82]⟩ = true := hc4
   rw [e4t]
   simp only [if_true]
   have hR25 : R = ((mustP l [⟨#[66, 89]⟩] (p24 + 1) o24).bind (fun _ p ops => (nameP l p ops).bind fun n p ops => .ok { ({ st0 with kind := 4, names := hn, count := hb, table := t, wher := w } : StL) with order := n, down := isQ l p 1 ⟨#[68, 69, 83, 67]⟩ } (if isQ l p 1 ⟨#[68, 69, 83, 67]⟩ = true then p + 1 else p) ops)).bind (limP l) := hR24.trans (by unfold tailP ordP; rw [if_pos e4t])
   refine sr_ ?_
   refine om_ ?_
   refine ob_ (numD 0 [_]) [.string ⟨#[]⟩] [_] zeroValue9 runUnderlying29 sizeOf9 (fun b57 => ?_)
   refine og_ 0 57 1 1 ?_
   refine OD.callX wp_ rfl rfl rfl call44 (must_vx l hl [⟨#[66, 89]⟩] (by decide) (p24 + 1) ad24 n24 cap24 br) ⟨ot, by exact rfl, trivial⟩ (List.Perm.refl _) (fun ch hch => (Or.inr ⟨ch, rfl, by obtain ⟨q, e, h1, h2⟩ := hch; exact ⟨q, e, hR25.trans (by rw [h1]; rfl), h2⟩⟩ : BodyX _ _ _ _ _ _)) ?_
   rintro _ _ ⟨p26, hr26, rfl⟩
   refine OD.perm (S' := ⟨br, 70, 3, [.list 3 (l.flatMap cT) l.length, .v (.int .i64 ((p26 : Nat) : Int)), .v (.slice ad24 n24 cap24)]⟩ :: [⟨bs, 32, 12, [_, _, _, _, _, _, _, _, _, _, _, _]⟩]) (List.Perm.refl _) ?_
   have hp26 := (must_le (hr26 []) (isQ_lt e4t)).2.1
   have hR26 : R = ((nameP l p26 o24).bind fun n p ops => .ok { ({ st0 with kind := 4, names := hn, count := hb, table := t, wher := w } : StL) with order := n, down := isQ l p 1 ⟨#[68, 69, 83, 67]⟩ } (if isQ l p 1 ⟨#[68, 69, 83, 67]⟩ = true then p + 1 else p) ops).bind (limP l) := hR25.trans (by rw [hr26]; rfl)
   refine on_ [(0, _), (1, _)] [⟨br, 70, 3, [_, _, _]⟩, ⟨bs, 32, 12, [_, _, _, _, _, _, _, _, _, _, _, _]⟩] ?_
   refine sr_ ?_
   refine om_ ?_
   refine om_ ?_
   refine OD.callX wp_ rfl rfl rfl call45 (name_vx hm hw l hl ht p26 ad24 n24 cap24 br) ⟨ot, trivial⟩ (List.Perm.refl _) (fun ch hch => (Or.inr ⟨ch, rfl, by obtain ⟨q, e, h1, h2⟩ := hch; exact ⟨q, e, hR26.trans (by rw [h1]; rfl), h2⟩⟩ : BodyX _ _ _ _ _ _)) ?_
   rintro _ _ ⟨on, hr27, rfl, rfl⟩
   refine OD.perm (S' := ⟨br, 70, 3, [.list 3 (l.flatMap cT) l.length, .v (.int .i64 (((p26 + 1) : Nat) : Int)), .v (.slice ad24 n24 cap24)]⟩ :: [⟨bs, 32, 12, [_, _, _, _, _, _, _, _, _, _, _, _]⟩]) (List.Perm.refl _) ?_
   have hlt27 := (name_le (hr27 [])).2.2
   have hR27 : R = limP l { ({ st0 with kind := 4, names := hn, count := hb, table := t, wher := w } : StL) with order := on, down := isQ l (p26 + 1) 1 ⟨#[68, 69, 83, 67]⟩ } (if isQ l (p26 + 1) 1 ⟨#[68, 69, 83, 67]⟩ = true then (p26 + 1) + 1 else (p26 + 1)) o24 := hR26.trans (by rw [hr27]; rfl)
   refine os_ nc_ ?_
   refine os_ (fa_ 7) ?_
   refine ot_ 1 [_, _, _, _, _, _, _, _, _, _, _, _] sizeOf9 ?_
   refine on_ [(0, _), (1, _)] [⟨br, 70, 3, [_, _, _]⟩, ⟨bs, 32, 12, [_, _, _, _, _, _, _, _, _, _, _, _]⟩] ?_
   refine CD.region ?_
   refine om_ ?_
   refine om_ ?_
   refine OD.call wp_ rfl rfl rfl call43 (eat_vc l hl (p26 + 1) 1 ⟨#[68, 69, 83, 67]⟩ ad24 n24 cap24 br) ⟨ot, opd_const, opd_const, trivial⟩ (List.Perm.refl _) ?_
   rintro _ _ ⟨rfl, rfl⟩
   refine OD.perm (S' := ⟨br, 70, 3, [.list 3 (l.flatMap cT) l.length, .v (.int .i64 (((if isQ l (p26 + 1) 1 ⟨#[68, 69, 83, 67]⟩ = true then (p26 + 1) + 1 else (p26 + 1)) : Nat) : Int)), .v (.slice ad24 n24 cap24)]⟩ :: [⟨bs, 32, 12, [_, _, _, _, _, _, _, _, _, _, _, _]⟩]) (List.Perm.refl _) ?_
   have hpd28 : (if isQ l (p26 + 1) 1 ⟨#[68, 69, 83, 67]⟩ = true then (p26 + 1) + 1 else (p26 + 1)) ≤ l.length := by (split; exact isQ_lt (by assumption); exact hlt27)
   refine os_ nc_ ?_
   refine os_ (fa_ 8) ?_
   refine ot_ 1 [_, _, _, _, _, _, _, _, _, _, _, _] sizeOf4 ?_
   refine on_ [(0, _), (1, _)] [⟨br, 70, 3, [_, _, _]⟩, ⟨bs, 32, 12, [_, _, _, _, _, _, _, _, _, _, _, _]⟩] ?_
   refine ⟨_, ?_, { ({ st0 with kind := 4, names := hn, count := hb, table := t, wher := w } : StL) with order := on, down := isQ l (p26 + 1) 1 ⟨#[68, 69, 83, 67]⟩ }, (if isQ l (p26 + 1) 1 ⟨#[68, 69, 83, 67]⟩ = true then (p26 + 1) + 1 else (p26 + 1)), o24, ad24, n24, cap24, ⟨Nat.zero_le _, Nat.zero_le _, hn6, hv24, Nat.zero_le _⟩, hpd28, hR27, rfl⟩
   exact Wk.asS (n := 118) rfl (List.Sublist.refl _) sq_
  have hc4' := hc4
  (try simp only [V.cnd, ne_eq] at hc4')
  have e4f : isQ l p24 1 ⟨#[79, 82, 68, 69, 82]⟩ = false := hc4
  rw [e4f]
  simp only [Bool.false_eq_true, if_false]
  have hR29 : R = limP l { st0 with kind := 4, names := hn, count := hb, table := t, wher := w } p24 o24 := hR24.trans (by unfold tailP ordP; rw [if_neg (F_ e4f)]; rfl)
  refine CD.skip ?_
  refine ⟨_, ?_, { st0 with kind := 4, names := hn, count := hb, table := t, wher := w }, p24, o24, ad24, n24, cap24, ⟨Nat.zero_le _, Nat.zero_le _, hn6, hv24, Nat.zero_le _⟩, hp24, hR29, rfl⟩
  exact Wk.asS (n := 118) rfl (List.Sublist.refl _) sq_
 rintro _ ⟨s, q, os, ad, n, cap, hok, hpl, hRl, rfl⟩
 refine CD.seq ?_
 refine CD.region ?_
 refine om_ ?_
 refine OD.call wp_ rfl rfl rfl call43 (eat_vc l hl q 1 ⟨#[76, 73, 77, 73, 84]⟩ ad n cap br) ⟨ot, opd_const, opd_const, trivial⟩ (List.Perm.refl _) ?_
 rintro _ _ ⟨rfl, rfl⟩
 refine OD.perm (S' := ⟨br, 70, 3, [.list 3 (l.flatMap cT) l.length, .v (.int .i64 (((if isQ l q 1 ⟨#[76, 73, 77, 73, 84]⟩ = true then q + 1 else q) : Nat) : Int)), .v (.slice ad n cap)]⟩ :: [⟨bs, 32, 12, [_, _, _, _, _, _, _, _, _, _, _, _]⟩]) (List.Perm.refl _) ?_
 refine on_ [(0, _), (1, _), (70, _)] [⟨br, 70, 3, [_, _, _]⟩, ⟨bs, 32, 12, [_, _, _, _, _, _, _, _, _, _, _, _]⟩] ?_
 refine CD.cond ot (fun hc5 => ?_) (fun hc5 => ?_)
 ·have hc5' := hc5
  (try simp only [V.cnd, ne_eq] at hc5')
  have e5t : isQ l q 1 ⟨#[76, 73, 77, 73, 84]⟩ = true := hc5
  rw [e5t]
  simp only [if_true]
  have e5s := e5t
  refine CD.seq ?_
  refine CD.seq ?_
  refine CD.draw (bks _) kr_ (fun _ h => h) ?_
  refine a0_ 0 rfl mv_ ?_
  refine a0_ 1 rfl nc_ ?_
  refine a0_ 2 rfl (fa_ 1) ?_
  refine a0_ 3 rfl (lb_ 0) ?_
  refine a0_ 4 rfl mv_ ?_
  refine a0_ 5 rfl nc_ ?_
  refine a0_ 6 rfl (fa_ 0) ?_
  refine a0_ 7 rfl (lb_ 0) ?_
  refine a0_ 8 rfl ln_ ?_
  refine a0_ 9 rfl bn_ ?_
  refine a0_ 10 rfl mv_ ?_
  refine AD0.split (t := 81) lk (fun hg81 => ?_) (fun hg81 => ?_)
  ·have hg81' := hg81; (try simp only [V.cnd, ne_eq] at hg81')
   refine s0_ 11 rfl ?_
   refine s0_ 12 rfl ?_
   refine s0_ 13 rfl ?_
   refine s0_ 14 rfl ?_
   refine s0_ 15 rfl ?_
   refine s0_ 16 rfl ?_
   refine s0_ 17 rfl ?_
   refine s0_ 18 rfl ?_
   refine s0_ 19 rfl ?_
   refine s0_ 20 rfl ?_
   refine s0_ 21 rfl ?_
   refine s0_ 22 rfl ?_
   refine a0_ 23 rfl pkT_ ?_
   refine AD0.later rfl ?_
   refine aw_ [(0, _), (1, _), (94, _)] [⟨br, 70, 3, [_, _, _]⟩, ⟨bs, 32, 12, [_, _, _, _, _, _, _, _, _, _, _, _]⟩] ?_
   refine AD.done kr_ ?_
   refine CD.condT ot (by first | rfl | assumption) ?_
   have hno : ¬ (q + 1 < l.length ∧ (l.getD (q + 1) ⟨0, ⟨#[]⟩, 0⟩).k = 2) := by first | exact (fun h => by simp at hg81; omega) | exact (fun h => by rw [tk_at h.1] at h; have := h.2; simp at hc6; exact hc6 this)
   have hR30 : R = gv l (q + 1) 6 := hRl.trans (lim_2 e5t hno)
   refine CD.region ?_
   refine om_ ?_
   exact OD.callX wp_ rfl rfl rfl call26 (give_vx l hl (q + 1) 6 ad n cap br) ⟨ot, opd_const, trivial⟩ (List.Perm.refl _) (fun ch hch => (Or.inr ⟨ch, rfl, ⟨_, _, hR30, hch⟩⟩ : BodyX _ _ _ _ _ _)) (fun r S' h => h.elim)
  have hg81' := hg81; (try simp only [V.cnd, ne_eq] at hg81')
  refine a0_ 11 rfl mv_ ?_
  refine a0_ 12 rfl nc_ ?_
  refine a0_ 13 rfl (fa_ 0) ?_
  refine a0_ 14 rfl (lb_ 0) ?_
  refine a0_ 15 rfl mv_ ?_
  refine a0_ 16 rfl nc_ ?_
  refine a0_ 17 rfl (fa_ 1) ?_
  refine a0_ 18 rfl (lb_ 0) ?_
  refine a0_ 19 rfl (ix_ 3 (h := by first | exact .l (j := q + 1) rfl (by simp at hg81; omega) | exact .r (j := q + 1) rfl (by simp at hg81; omega))) ?_
  refine a0_ 20 rfl (fa_ 0) ?_
  refine a0_ 21 rfl (still_r1 (mk := Op.load 3) rfl ot (by exact ld_fm0 (i := q + 1) cT_len isAgg3 (by simp at hg81; omega) rfl)) ?_
  refine a0_ 22 rfl bn_ ?_
  refine a0_ 23 rfl pkF_ ?_
  refine AD0.later rfl ?_
  refine aw_ [(0, _), (1, _), (94, _)] [⟨br, 70, 3, [_, _, _]⟩, ⟨bs, 32, 12, [_, _, _, _, _, _, _, _, _, _, _, _]⟩] ?_
  refine AD.done kr_ ?_
  refine CD.cond ot (fun hc6 => ?_) (fun hc6 => ?_)
  ·have hc6' := hc6
   (try simp only [V.cnd, ne_eq] at hc6')
   have hno : ¬ (q + 1 < l.length ∧ (l.getD (q + 1) ⟨0, ⟨#[]⟩, 0⟩).k = 2) := by first | exact (fun h => by simp at hg81; omega) | exact (fun h => by rw [tk_at h.1] at h; have := h.2; simp at hc6; exact hc6 this)
   have hR31 : R = gv l (q + 1) 6 := hRl.trans (lim_2 e5t hno)
   refine CD.region ?_
   refine om_ ?_
   exact OD.callX wp_ rfl rfl rfl call26 (give_vx l hl (q + 1) 6 ad n cap br) ⟨ot, opd_const, trivial⟩ (List.Perm.refl _) (fun ch hch => (Or.inr ⟨ch, rfl, ⟨_, _, hR31, hch⟩⟩ : BodyX _ _ _ _ _ _)) (fun r S' h => h.elim)
  have hc6' := hc6
  (try simp only [V.cnd, ne_eq] at hc6')
  have hlq : q + 1 < l.length := by simp at hg81; omega
  have hk2 : l[q + 1].k = 2 := by simpa using hc6
  have hR32 : R = .ok { s with limit := l[q + 1].n } (q + 2) os := hRl.trans (lim_1 e5t hlq hk2)
  refine CD.skip ?_
  refine CD.seq ?_
  refine CD.draw (bks (List.eraseIdx _ 1)) kr_ (fun _ h => (List.Sublist.map _ (List.eraseIdx_sublist _ 1)).subset h) ?_
  refine a0_ 0 rfl mv_ ?_
  refine a0_ 1 rfl mv_ ?_
  refine a0_ 2 rfl nc_ ?_
  refine a0_ 3 rfl (fa_ 0) ?_
  refine a0_ 4 rfl (lb_ 0) ?_
  refine a0_ 5 rfl mv_ ?_
  refine a0_ 6 rfl nc_ ?_
  refine a0_ 7 rfl (fa_ 1) ?_
  refine a0_ 8 rfl (lb_ 0) ?_
  refine a0_ 9 rfl (ix_ 3 (h := by first | exact .l (j := q + 1) rfl hlq | exact .r (j := q + 1) rfl hlq)) ?_
  refine a0_ 10 rfl (fa_ 2) ?_
  refine a0_ 11 rfl (still_r1 (mk := Op.load 3) rfl ot (by exact ld_fm (i := q + 1) (j := 2) cT_len isAgg3 hlq rfl)) ?_
  refine a0_ 12 rfl nc_ ?_
  refine a0_ 13 rfl (fa_ 9) ?_
  refine AD0.later rfl ?_
  refine AD.one (i := 14) kr_ ?_
  refine AStep.store (k := 1) (cs' := [_, _, _, _, _, _, _, _, _, _, _, _]) rfl wp_ rfl rfl ot rfl rfl ot rfl rfl sizeOf3 rfl rfl rfl (by intro b hb; simp [bks, St.put] at hb ⊢; try first | exact hb | simp [hb] | (rcases hb with hb | hb <;> simp [hb]) | (rcases hb with hb | hb | hb <;> simp [hb])) ?_
  refine aw_ [(0, _)] [⟨br, 70, 3, [_, _, _]⟩, ⟨bs, 32, 12, [_, _, _, _, _, _, _, _, _, _, _, _]⟩] ?_
  refine AD.done kr_ ?_
  refine CD.region ?_
  refine om_ ?_
  refine os_ nc_ ?_
  refine os_ (fa_ 1) ?_
  refine os_ (lb_ 0) ?_
  refine os_ bn_ ?_
  refine os_ nc_ ?_
  refine os_ (fa_ 1) ?_
  refine ot_ 0 [_, _, _] sizeOf3 ?_
  refine on_ [] [⟨br, 70, 3, [_, _, _]⟩, ⟨bs, 32, 12, [_, _, _, _, _, _, _, _, _, _, _, _]⟩] ?_
  refine Or.inl ?_
  refine ⟨.inl rfl, _, [⟨br, 70, 3, [.list 3 (l.flatMap cT) l.length, .v (.int .i64 (((q + 2) : Nat) : Int)), .v (.slice ad n cap)]⟩, ⟨bs, 32, 12, _⟩], (List.Sublist.refl _), ret_none results48 , ?_⟩
  exact ⟨{ s with limit := l[q + 1].n }, (q + 2), os, _, _, _, hR32, hok, hlq, rfl⟩
 have hc5' := hc5
 (try simp only [V.cnd, ne_eq] at hc5')
 have e5f : isQ l q 1 ⟨#[76, 73, 77, 73, 84]⟩ = false := hc5
 rw [e5f]
 simp only [Bool.false_eq_true, if_false]
 have hR33 : R = .ok s q os := hRl.trans (lim_3 e5f)
 refine CD.skip ?_
 refine Or.inl ?_
 refine ⟨.inl rfl, _, [⟨br, 70, 3, [.list 3 (l.flatMap cT) l.length, .v (.int .i64 ((q : Nat) : Int)), .v (.slice ad n cap)]⟩, ⟨bs, 32, 12, _⟩], (List.Sublist.refl _), ret_none results48 , ?_⟩
 exact ⟨s, q, os, _, _, _, hR33, hok, hpl, rfl⟩

end Go.Proofs.YtjgekbmahhhokaaDoor.Pa

namespace Go.Proofs.YtjgekbmahhhokaaDoor.Pa
open Go.Proofs.Tryd
open Go.RowKit V Pk Go.Proofs.YtjgekbmahhhokaaDoor.Vl Go.Proofs.YtjgekbmahhhokaaDoor.Nm
variable {G : List (Nat × List Value)}
def firstE {α : Type} (f : α → Int) : List α → Int
 | [] => 0
 | a :: r => if f a ≠ 0 then f a else firstE f r
theorem first_no {α : Type} {f : α → Int} {l : List α} {i : Nat} (hi : i < l.length) (h : f l[i] ≠ 0) : firstE f (l.drop i) = f l[i] := by rw [List.drop_eq_getElem_cons hi, firstE, if_pos h]
theorem first_on {α : Type} {f : α → Int} {l : List α} {i : Nat} (hi : i < l.length) (h : f l[i] = 0) : firstE f (l.drop i) = firstE f (l.drop (i + 1)) := by rw [List.drop_eq_getElem_cons hi, firstE, if_neg (by rw [h]; decide)]
theorem first_end {α : Type} {f : α → Int} {l : List α} {i : Nat} (hi : l.length ≤ i) : firstE f (l.drop i) = 0 := by rw [List.drop_of_length_le hi]; rfl
def rowF (l : List Vl) : Int := if l.length < 1 ∨ l.length > 6 then 1 else firstE litF l
def whereF (l : List OpL) : Int := if l.length = 0 then 0 else exprF l
def pickF (s : StL) : Int :=
 if s.names.length > 6 then 1 else if s.limit < -1 then 3
 else if (s.count = true ∧ 0 < s.names.length) ∨ (s.down = true ∧ eqS s.order ⟨#[]⟩ = true) then 6
 else if firstE nameF s.names ≠ 0 then firstE nameF s.names else if whereF s.wher ≠ 0 then whereF s.wher else if eqS s.order ⟨#[]⟩ = true then 0 else nameF s.order
def bareF (s h : StL) : Bool := eqS s.table h.table && (((s.cols.length : Int) == (h.cols.length : Int)) && (((s.row.length : Int) == (h.row.length : Int)) && (((s.names.length : Int) == (h.names.length : Int)) && ((s.count == h.count) && (((s.wher.length : Int) == (h.wher.length : Int)) && (eqS s.order h.order && ((s.down == h.down) && ((s.limit == h.limit) && (eqS s.set h.set && ((s.to.length : Int) == (h.to.length : Int)))))))))))
structure FinS (s : StL) : Prop where
 ok : okS s
 t : s.table.size ≤ maxLen
 c : ∀ c ∈ s.cols, c.n.size ≤ maxLen
 n : ∀ x ∈ s.names, x.size ≤ maxLen
 o : s.order.size ≤ maxLen
 e : s.set.size ≤ maxLen
 r : ∀ v ∈ s.row, -9223372036854775808 ≤ v.n ∧ v.n ≤ 9223372036854775807
 w : ∀ o ∈ s.wher, o.nm.size ≤ maxLen ∧ -9223372036854775808 ≤ o.v.n ∧ o.v.n ≤ 9223372036854775807
 x : ∀ o ∈ s.to, o.nm.size ≤ maxLen ∧ -9223372036854775808 ≤ o.v.n ∧ o.v.n ≤ 9223372036854775807
def showW (l : List OpL) : List Tk := if l.length = 0 then [] else [⟨#[87, 72, 69, 82, 69]⟩].map wordT ++ showO l

theorem names_vp (hm : (0, marksC) ∈ G) (hw : (2, wordsC) ∈ G) (l : List ByteArray) (hl : l.length ≤ 1000) (hs : ∀ s ∈ l, s.size ≤ maxLen) : VP Tryd.prog G 85 [.list 1 (l.flatMap cS) l.length] (.v (.int .i64 (firstE nameF l))) := by
 refine VC.body func85 rfl ntmps85 le_ fun X0 w0 S00 => ?_
 refine sr_ ?_
 refine om_ ?_
 refine nm_ [0] ?_
 refine CD.seq ?_
 refine sr_ ?_
 refine om_ ?_
 refine os_ ln_ ?_
 refine om_ ?_
 refine nm_ [6, 7, 8] ?_
 refine CD.block ?_
 refine lp_ (fun (i : Nat) y__ => (i ≤ l.length) ∧ (firstE nameF l = firstE nameF (l.drop i)) ∧ y__ = (⟨18, [(6, .list 1 (l.flatMap cS) l.length), (7, .v (.int .i64 (l.length : Nat))), (8, .v (.int .i64 (i : Nat)))], []⟩ : St)) (fun (i : Nat) => l.length - i) 0 ⟨(Nat.zero_le _), rfl, rfl⟩ (Wk.asS rfl sv_ sq_) ?_
 rintro i _ ⟨hi, hx, rfl⟩
 refine sr_ ?_
 refine os_ bn_ ?_
 refine nm_ [6, 7, 8, 9] ?_
 refine CD.seq ?_
 refine CD.cond ot (fun hc0 => ?_) (fun hc0 => ?_)
 ·have hc0' := hc0
  (try simp only [V.cnd, ne_eq] at hc0')
  have hlt : i < l.length := by simp at hc0; omega
  refine CD.skip ?_
  refine CD.seq ?_
  refine CD.block ?_
  refine sr_ ?_
  refine os_ (ix_ 1 (h := by first | exact .l (j := i) rfl hlt | exact .r (j := i) rfl hlt)) ?_
  refine os_ ld_ ?_
  refine om_ ?_
  refine nm_ [4, 6, 7, 8] ?_
  refine sr_ ?_
  refine om_ ?_
  refine oc_ call61 (name_vp hm hw l[i] (hs _ (List.getElem_mem hlt))) ?_
  refine om_ ?_
  refine on_ [(5, _), (6, _), (7, _), (8, _)] [] ?_
  refine sr_ ?_
  refine om_ ?_
  refine os_ bn_ ?_
  refine nm_ [5, 6, 7, 8, 15] ?_
  refine CD.cond ot (fun hc1 => ?_) (fun hc1 => ?_)
  ·have hc1' := hc1
   (try simp only [V.cnd, ne_eq] at hc1')
   have hn : nameF l[i] ≠ 0 := by simpa using hc1
   have hend := hx.trans (first_no hlt hn)
   refine sr_ ?_
   refine om_ ?_
   refine om_ ?_
   refine nm_ [2] ?_
   refine CD.ret ?_
   refine r1_ ?_
   rw [hend]; exact ⟨rfl, rfl⟩
  have hc1' := hc1
  (try simp only [V.cnd, ne_eq] at hc1')
  have h0 : nameF l[i] = 0 := by simpa using hc1
  refine CD.skip ?_
  refine CD.region ?_
  refine os_ bn_ ?_
  refine om_ ?_
  refine nm_ [6, 7, 8] ?_
  refine ⟨(i + 1), _, ?_, ?_, (by omega), (hx.trans (first_on hlt h0)), rfl⟩
  ·first | omega | (simp only []; omega)
  exact Wk.asS (n := 18) rfl sv_ sq_
 have hc0' := hc0
 (try simp only [V.cnd, ne_eq] at hc0')
 have hend : firstE nameF l = 0 := hx.trans (first_end (by simp at hc0; omega))
 refine CD.exit ?_
 refine sr_ ?_
 refine om_ ?_
 refine nm_ [2] ?_
 refine CD.ret ?_
 refine r1_ ?_
 rw [hend]; exact ⟨rfl, rfl⟩

theorem rowc_vp (l : List Vl) (hl : l.length ≤ 1000) : VP Tryd.prog G 63 [.list 3 (l.flatMap cV) l.length] (.v (.int .i64 (rowF l))) := by
 refine VC.body func63 rfl ntmps63 le_ fun X0 w0 S00 => ?_
 have hlx : (l.length < 1 ∨ l.length > 6) ∨ ¬ (l.length < 1 ∨ l.length > 6) := by omega
 refine sr_ ?_
 refine om_ ?_
 refine nm_ [0] ?_
 refine CD.seq ?_
 refine sr_ ?_
 refine om_ ?_
 refine os_ ln_ ?_
 refine os_ bn_ ?_
 refine om_ ?_
 refine OD.split (t := 9) lk (fun hg9 => ?_) (fun hg9 => ?_)
 ·have hg9' := hg9; (try simp only [V.cnd, ne_eq] at hg9')
  refine sk_ ?_
  refine sk_ ?_
  refine sk_ ?_
  refine os_ pkT_ ?_
  refine nm_ [0, 13] ?_
  refine CD.condT ot (by first | rfl | assumption) ?_
  have hend : rowF l = 1 := if_pos (by omega)
  refine sr_ ?_
  refine om_ ?_
  refine nm_ [2] ?_
  refine CD.ret ?_
  refine r1_ ?_
  rw [hend]; exact ⟨rfl, rfl⟩
 have hg9' := hg9; (try simp only [V.cnd, ne_eq] at hg9')
 refine om_ ?_
 refine os_ ln_ ?_
 refine os_ bn_ ?_
 refine os_ pkF_ ?_
 refine nm_ [0, 13] ?_
 refine CD.cond ot (fun hc0 => ?_) (fun hc0 => ?_)
 ·have hc0' := hc0
  (try simp only [V.cnd, ne_eq] at hc0')
  have hend : rowF l = 1 := if_pos (by omega)
  refine sr_ ?_
  refine om_ ?_
  refine nm_ [2] ?_
  refine CD.ret ?_
  refine r1_ ?_
  rw [hend]; exact ⟨rfl, rfl⟩
 have hc0' := hc0
 (try simp only [V.cnd, ne_eq] at hc0')
 have hf : rowF l = firstE litF l := if_neg (by omega)
 refine CD.skip ?_
 refine CD.seq ?_
 refine sr_ ?_
 refine om_ ?_
 refine os_ ln_ ?_
 refine om_ ?_
 refine nm_ [14, 15, 16] ?_
 refine CD.block ?_
 refine lp_ (fun (i : Nat) y__ => (i ≤ l.length) ∧ (firstE litF l = firstE litF (l.drop i)) ∧ y__ = (⟨26, [(14, .list 3 (l.flatMap cV) l.length), (15, .v (.int .i64 (l.length : Nat))), (16, .v (.int .i64 (i : Nat)))], []⟩ : St)) (fun (i : Nat) => l.length - i) 0 ⟨(Nat.zero_le _), rfl, rfl⟩ (Wk.asS rfl sv_ sq_) ?_
 rintro i _ ⟨hi, hx, rfl⟩
 refine sr_ ?_
 refine os_ bn_ ?_
 refine nm_ [14, 15, 16, 17] ?_
 refine CD.seq ?_
 refine CD.cond ot (fun hc1 => ?_) (fun hc1 => ?_)
 ·have hc1' := hc1
  (try simp only [V.cnd, ne_eq] at hc1')
  have hlt : i < l.length := by simp at hc1; omega
  refine CD.skip ?_
  refine CD.seq ?_
  refine CD.block ?_
  refine sr_ ?_
  refine os_ (ix_ 3 (h := by first | exact .l (j := i) rfl hlt | exact .r (j := i) rfl hlt)) ?_
  refine os_ (la_ [_, _, _]) ?_
  refine OD.alloc (ds := [_, _, _]) wp_ rfl rfl zeroValue37 rfl (fun b4 => ?_)
  refine ot_ 0 [_, _, _] sizeOf37 ?_
  refine on_ [(4, _), (14, _), (15, _), (16, _)] [⟨b4, 37, 3, [_, _, _]⟩] ?_
  refine sr_ ?_
  refine os_ (lab_ 0 [_, _, _]) ?_
  refine oc_ call84 (Nm.literal_vp l[i]) ?_
  refine om_ ?_
  refine on_ [(5, _), (14, _), (15, _), (16, _)] [⟨b4, 37, 3, [_, _, _]⟩] ?_
  refine sr_ ?_
  refine om_ ?_
  refine os_ bn_ ?_
  refine nm_ [5, 14, 15, 16, 23] ?_
  refine CD.cond ot (fun hc2 => ?_) (fun hc2 => ?_)
  ·have hc2' := hc2
   (try simp only [V.cnd, ne_eq] at hc2')
   have hn : litF l[i] ≠ 0 := by simpa using hc2
   have hend := hf.trans (hx.trans (first_no hlt hn))
   refine sr_ ?_
   refine om_ ?_
   refine om_ ?_
   refine nm_ [2] ?_
   refine CD.ret ?_
   refine r1_ ?_
   rw [hend]; exact ⟨rfl, rfl⟩
  have hc2' := hc2
  (try simp only [V.cnd, ne_eq] at hc2')
  have h0 : litF l[i] = 0 := by simpa using hc2
  refine CD.skip ?_
  refine CD.region ?_
  refine os_ bn_ ?_
  refine om_ ?_
  refine nm_ [14, 15, 16] ?_
  refine ⟨(i + 1), _, ?_, ?_, (by omega), (hx.trans (first_on hlt h0)), rfl⟩
  ·first | omega | (simp only []; omega)
  exact Wk.asS (n := 26) rfl sv_ sq_
 have hc1' := hc1
 (try simp only [V.cnd, ne_eq] at hc1')
 have hend : rowF l = 0 := hf.trans (hx.trans (first_end (by simp at hc1; omega)))
 refine CD.exit ?_
 refine sr_ ?_
 refine om_ ?_
 refine nm_ [2] ?_
 refine CD.ret ?_
 refine r1_ ?_
 rw [hend]; exact ⟨rfl, rfl⟩

theorem wherec_vp (hm : (0, marksC) ∈ G) (hw : (2, wordsC) ∈ G) (l : List OpL) (hs : ∀ o ∈ l, o.nm.size ≤ maxLen) : VP Tryd.prog G 66 [.list 5 (l.flatMap cO) l.length] (.v (.int .i64 (whereF l))) := by
 refine VC.body func66 rfl ntmps66 le_ fun X0 w0 S00 => ?_
 refine sr_ ?_
 refine om_ ?_
 refine nm_ [0] ?_
 refine CD.seq ?_
 refine sr_ ?_
 refine om_ ?_
 refine os_ ln_ ?_
 refine os_ bn_ ?_
 refine nm_ [0, 5] ?_
 refine CD.cond ot (fun hc0 => ?_) (fun hc0 => ?_)
 ·have hc0' := hc0
  (try simp only [V.cnd, ne_eq] at hc0')
  have hend : whereF l = 0 := if_pos (by simp at hc0; omega)
  refine sr_ ?_
  refine om_ ?_
  refine nm_ [2] ?_
  refine CD.ret ?_
  refine r1_ ?_
  rw [hend]; exact ⟨rfl, rfl⟩
 have hc0' := hc0
 (try simp only [V.cnd, ne_eq] at hc0')
 have hend : whereF l = exprF l := if_neg (by simp at hc0; omega)
 refine CD.skip ?_
 refine sr_ ?_
 refine om_ ?_
 refine oc_ call65 (expr_vp hm hw l hs) ?_
 refine om_ ?_
 refine on_ [(2, _)] [] ?_
 refine CD.ret ?_
 refine ⟨.inr rfl, rt_ results66 ?_⟩
 rw [hend]; exact ⟨rfl, rfl⟩

theorem pickc_vp (hm : (0, marksC) ∈ G) (hw : (2, wordsC) ∈ G) (s : StL) (hf : FinS s) : VP Tryd.prog G 64 [.agg (cSt s)] (.v (.int .i64 (pickF s))) := by
 refine VC.body func64 rfl ntmps64 le_ fun X0 w0 S00 => ?_
 unfold cSt
 refine sr_ ?_
 refine OD.box (ds := [_, _, _, _, _, _, _, _, _, _, _, _]) wp_ rfl rfl ot rfl rfl (fun b1 => ?_)
 refine om_ ?_
 refine on_ [(1, _)] [⟨b1, 32, 12, [_, _, _, _, _, _, _, _, _, _, _, _]⟩] ?_
 refine CD.seq ?_
 refine CD.block ?_
 refine sr_ ?_
 refine os_ (fa_ 4) ?_
 refine os_ (lb_ 0) ?_
 refine os_ ln_ ?_
 refine os_ bn_ ?_
 refine om_ ?_
 refine nm_ [1, 5] ?_
 refine CD.cond ot (fun hc0 => ?_) (fun hc0 => ?_)
 ·have hc0' := hc0
  (try simp only [V.cnd, ne_eq] at hc0')
  refine sr_ ?_
  refine om_ ?_
  refine nm_ [2] ?_
  refine CD.ret ?_
  refine r1_ ?_
  refine ⟨vi ?_, rfl⟩
  unfold pickF eqS
  simp_all
  all_goals (try (intros; (repeat' split) <;> first | rfl | omega))
 have hc0' := hc0
 (try simp only [V.cnd, ne_eq] at hc0')
 refine sr_ ?_
 refine os_ (fa_ 9) ?_
 refine os_ (lb_ 0) ?_
 refine os_ bn_ ?_
 refine om_ ?_
 refine nm_ [1, 10] ?_
 refine CD.cond ot (fun hc1 => ?_) (fun hc1 => ?_)
 ·have hc1' := hc1
  (try simp only [V.cnd, ne_eq] at hc1')
  refine sr_ ?_
  refine om_ ?_
  refine nm_ [2] ?_
  refine CD.ret ?_
  refine r1_ ?_
  refine ⟨vi ?_, rfl⟩
  unfold pickF eqS
  simp_all
  all_goals (try (intros; (repeat' split) <;> first | rfl | omega))
 have hc1' := hc1
 (try simp only [V.cnd, ne_eq] at hc1')
 refine sr_ ?_
 refine os_ (fa_ 5) ?_
 refine os_ (lb_ 0) ?_
 refine om_ ?_
 refine OD.split (t := 17) lk (fun hg17 => ?_) (fun hg17 => ?_)
 ·have hg17' := hg17; (try simp only [V.cnd, ne_eq] at hg17')
  refine os_ (fa_ 4) ?_
  refine os_ (lb_ 0) ?_
  refine os_ ln_ ?_
  refine os_ bn_ ?_
  refine os_ pkT_ ?_
  refine om_ ?_
  refine OD.split (t := 23) lk (fun hg23 => ?_) (fun hg23 => ?_)
  ·have hg23' := hg23; (try simp only [V.cnd, ne_eq] at hg23')
   refine sk_ ?_
   refine sk_ ?_
   refine sk_ ?_
   refine sj_ ?_
   refine sj_ ?_
   refine sj_ ?_
   refine sk_ ?_
   refine os_ pkT_ ?_
   refine om_ ?_
   refine nm_ [1, 14] ?_
   refine CD.condT ot (by first | rfl | assumption) ?_
   refine sr_ ?_
   refine om_ ?_
   refine nm_ [2] ?_
   refine CD.ret ?_
   refine r1_ ?_
   refine ⟨vi ?_, rfl⟩
   unfold pickF eqS
   simp_all
   all_goals (try (intros; (repeat' split) <;> first | rfl | omega))
  have hg23' := hg23; (try simp only [V.cnd, ne_eq] at hg23')
  refine os_ (fa_ 8) ?_
  refine os_ (lb_ 0) ?_
  refine om_ ?_
  refine OD.split (t := 26) lk (fun hg26 => ?_) (fun hg26 => ?_)
  ·have hg26' := hg26; (try simp only [V.cnd, ne_eq] at hg26')
   refine os_ (fa_ 7) ?_
   refine os_ (lb_ 0) ?_
   refine os_ bn_ ?_
   refine os_ pkT_ ?_
   refine os_ pkF_ ?_
   refine om_ ?_
   refine nm_ [1, 14] ?_
   refine CD.cond ot (fun hc2 => ?_) (fun hc2 => ?_)
   ·have hc2' := hc2
    (try simp only [V.cnd, ne_eq] at hc2')
    refine sr_ ?_
    refine om_ ?_
    refine nm_ [2] ?_
    refine CD.ret ?_
    refine r1_ ?_
    refine ⟨vi ?_, rfl⟩
    unfold pickF eqS
    simp_all
    all_goals (try (intros; (repeat' split) <;> first | rfl | omega))
   have hc2' := hc2
   (try simp only [V.cnd, ne_eq] at hc2')
   refine CD.skip ?_
   refine CD.seq ?_
   refine sr_ ?_
   refine os_ (fa_ 4) ?_
   refine os_ (lb_ 0) ?_
   refine oc_ call85 (names_vp hm hw s.names (by have := hf.ok.2.2.1; omega) hf.n) ?_
   refine om_ ?_
   refine on_ [(1, _), (3, _)] [⟨b1, 32, 12, [_, _, _, _, _, _, _, _, _, _, _, _]⟩] ?_
   refine sr_ ?_
   refine om_ ?_
   refine os_ bn_ ?_
   refine nm_ [1, 3, 36] ?_
   refine CD.cond ot (fun hc3 => ?_) (fun hc3 => ?_)
   ·have hc3' := hc3
    (try simp only [V.cnd, ne_eq] at hc3')
    refine sr_ ?_
    refine om_ ?_
    refine om_ ?_
    refine nm_ [2] ?_
    refine CD.ret ?_
    refine r1_ ?_
    refine ⟨vi ?_, rfl⟩
    unfold pickF eqS
    simp_all
    all_goals (try (intros; (repeat' split) <;> first | rfl | omega))
   have hc3' := hc3
   (try simp only [V.cnd, ne_eq] at hc3')
   refine CD.skip ?_
   refine CD.seq ?_
   refine sr_ ?_
   refine os_ (fa_ 6) ?_
   refine os_ (lb_ 0) ?_
   refine oc_ call66 (wherec_vp hm hw s.wher (fun o h => (hf.w o h).1)) ?_
   refine om_ ?_
   refine on_ [(1, _), (4, _)] [⟨b1, 32, 12, [_, _, _, _, _, _, _, _, _, _, _, _]⟩] ?_
   refine sr_ ?_
   refine om_ ?_
   refine os_ bn_ ?_
   refine nm_ [1, 4, 42] ?_
   refine CD.cond ot (fun hc4 => ?_) (fun hc4 => ?_)
   ·have hc4' := hc4
    (try simp only [V.cnd, ne_eq] at hc4')
    refine sr_ ?_
    refine om_ ?_
    refine om_ ?_
    refine nm_ [2] ?_
    refine CD.ret ?_
    refine r1_ ?_
    refine ⟨vi ?_, rfl⟩
    unfold pickF eqS
    simp_all
    all_goals (try (intros; (repeat' split) <;> first | rfl | omega))
   have hc4' := hc4
   (try simp only [V.cnd, ne_eq] at hc4')
   refine CD.skip ?_
   refine CD.seq ?_
   refine sr_ ?_
   refine os_ (fa_ 7) ?_
   refine os_ (lb_ 0) ?_
   refine os_ bn_ ?_
   refine nm_ [1, 46] ?_
   refine CD.cond ot (fun hc5 => ?_) (fun hc5 => ?_)
   ·have hc5' := hc5
    (try simp only [V.cnd, ne_eq] at hc5')
    refine sr_ ?_
    refine os_ (fa_ 7) ?_
    refine os_ (lb_ 0) ?_
    refine oc_ call61 (name_vp hm hw s.order hf.o) ?_
    refine om_ ?_
    refine on_ [(2, _)] [⟨b1, 32, 12, [_, _, _, _, _, _, _, _, _, _, _, _]⟩] ?_
    refine CD.ret ?_
    refine ⟨.inr rfl, rt_ results64 ?_⟩
    refine ⟨vi ?_, rfl⟩
    unfold pickF eqS
    simp_all
    all_goals (try (intros; (repeat' split) <;> first | rfl | omega))
   have hc5' := hc5
   (try simp only [V.cnd, ne_eq] at hc5')
   refine CD.skip ?_
   refine sr_ ?_
   refine om_ ?_
   refine nm_ [2] ?_
   refine CD.ret ?_
   refine r1_ ?_
   refine ⟨vi ?_, rfl⟩
   unfold pickF eqS
   simp_all
   all_goals (try (intros; (repeat' split) <;> first | rfl | omega))
  have hg26' := hg26; (try simp only [V.cnd, ne_eq] at hg26')
  refine sk_ ?_
  refine sk_ ?_
  refine sk_ ?_
  refine os_ pkF_ ?_
  refine os_ pkF_ ?_
  refine om_ ?_
  refine nm_ [1, 14] ?_
  refine CD.condF ot (by first | rfl | assumption) ?_
  refine CD.skip ?_
  refine CD.seq ?_
  refine sr_ ?_
  refine os_ (fa_ 4) ?_
  refine os_ (lb_ 0) ?_
  refine oc_ call85 (names_vp hm hw s.names (by have := hf.ok.2.2.1; omega) hf.n) ?_
  refine om_ ?_
  refine on_ [(1, _), (3, _)] [⟨b1, 32, 12, [_, _, _, _, _, _, _, _, _, _, _, _]⟩] ?_
  refine sr_ ?_
  refine om_ ?_
  refine os_ bn_ ?_
  refine nm_ [1, 3, 36] ?_
  refine CD.cond ot (fun hc3 => ?_) (fun hc3 => ?_)
  ·have hc3' := hc3
   (try simp only [V.cnd, ne_eq] at hc3')
   refine sr_ ?_
   refine om_ ?_
   refine om_ ?_
   refine nm_ [2] ?_
   refine CD.ret ?_
   refine r1_ ?_
   refine ⟨vi ?_, rfl⟩
   unfold pickF eqS
   simp_all
   all_goals (try (intros; (repeat' split) <;> first | rfl | omega))
  have hc3' := hc3
  (try simp only [V.cnd, ne_eq] at hc3')
  refine CD.skip ?_
  refine CD.seq ?_
  refine sr_ ?_
  refine os_ (fa_ 6) ?_
  refine os_ (lb_ 0) ?_
  refine oc_ call66 (wherec_vp hm hw s.wher (fun o h => (hf.w o h).1)) ?_
  refine om_ ?_
  refine on_ [(1, _), (4, _)] [⟨b1, 32, 12, [_, _, _, _, _, _, _, _, _, _, _, _]⟩] ?_
  refine sr_ ?_
  refine om_ ?_
  refine os_ bn_ ?_
  refine nm_ [1, 4, 42] ?_
  refine CD.cond ot (fun hc4 => ?_) (fun hc4 => ?_)
  ·have hc4' := hc4
   (try simp only [V.cnd, ne_eq] at hc4')
   refine sr_ ?_
   refine om_ ?_
   refine om_ ?_
   refine nm_ [2] ?_
   refine CD.ret ?_
   refine r1_ ?_
   refine ⟨vi ?_, rfl⟩
   unfold pickF eqS
   simp_all
   all_goals (try (intros; (repeat' split) <;> first | rfl | omega))
  have hc4' := hc4
  (try simp only [V.cnd, ne_eq] at hc4')
  refine CD.skip ?_
  refine CD.seq ?_
  refine sr_ ?_
  refine os_ (fa_ 7) ?_
  refine os_ (lb_ 0) ?_
  refine os_ bn_ ?_
  refine nm_ [1, 46] ?_
  refine CD.cond ot (fun hc5 => ?_) (fun hc5 => ?_)
  ·have hc5' := hc5
   (try simp only [V.cnd, ne_eq] at hc5')
   refine sr_ ?_
   refine os_ (fa_ 7) ?_
   refine os_ (lb_ 0) ?_
   refine oc_ call61 (name_vp hm hw s.order hf.o) ?_
   refine om_ ?_
   refine on_ [(2, _)] [⟨b1, 32, 12, [_, _, _, _, _, _, _, _, _, _, _, _]⟩] ?_
   refine CD.ret ?_
   refine ⟨.inr rfl, rt_ results64 ?_⟩
   refine ⟨vi ?_, rfl⟩
   unfold pickF eqS
   simp_all
   all_goals (try (intros; (repeat' split) <;> first | rfl | omega))
  have hc5' := hc5
  (try simp only [V.cnd, ne_eq] at hc5')
  refine CD.skip ?_
  refine sr_ ?_
  refine om_ ?_
  refine nm_ [2] ?_
  refine CD.ret ?_
  refine r1_ ?_
  refine ⟨vi ?_, rfl⟩
  unfold pickF eqS
  simp_all
  all_goals (try (intros; (repeat' split) <;> first | rfl | omega))
 have hg17' := hg17; (try simp only [V.cnd, ne_eq] at hg17')
 refine sk_ ?_
 refine sk_ ?_
 refine sk_ ?_
 refine sk_ ?_
 refine os_ pkF_ ?_
 refine om_ ?_
 refine os_ (fa_ 8) ?_
 refine os_ (lb_ 0) ?_
 refine om_ ?_
 refine OD.split (t := 26) lk (fun hg26 => ?_) (fun hg26 => ?_)
 ·have hg26' := hg26; (try simp only [V.cnd, ne_eq] at hg26')
  refine os_ (fa_ 7) ?_
  refine os_ (lb_ 0) ?_
  refine os_ bn_ ?_
  refine os_ pkT_ ?_
  refine os_ pkF_ ?_
  refine om_ ?_
  refine nm_ [1, 14] ?_
  refine CD.cond ot (fun hc2 => ?_) (fun hc2 => ?_)
  ·have hc2' := hc2
   (try simp only [V.cnd, ne_eq] at hc2')
   refine sr_ ?_
   refine om_ ?_
   refine nm_ [2] ?_
   refine CD.ret ?_
   refine r1_ ?_
   refine ⟨vi ?_, rfl⟩
   unfold pickF eqS
   simp_all
   all_goals (try (intros; (repeat' split) <;> first | rfl | omega))
  have hc2' := hc2
  (try simp only [V.cnd, ne_eq] at hc2')
  refine CD.skip ?_
  refine CD.seq ?_
  refine sr_ ?_
  refine os_ (fa_ 4) ?_
  refine os_ (lb_ 0) ?_
  refine oc_ call85 (names_vp hm hw s.names (by have := hf.ok.2.2.1; omega) hf.n) ?_
  refine om_ ?_
  refine on_ [(1, _), (3, _)] [⟨b1, 32, 12, [_, _, _, _, _, _, _, _, _, _, _, _]⟩] ?_
  refine sr_ ?_
  refine om_ ?_
  refine os_ bn_ ?_
  refine nm_ [1, 3, 36] ?_
  refine CD.cond ot (fun hc3 => ?_) (fun hc3 => ?_)
  ·have hc3' := hc3
   (try simp only [V.cnd, ne_eq] at hc3')
   refine sr_ ?_
   refine om_ ?_
   refine om_ ?_
   refine nm_ [2] ?_
   refine CD.ret ?_
   refine r1_ ?_
   refine ⟨vi ?_, rfl⟩
   unfold pickF eqS
   simp_all
   all_goals (try (intros; (repeat' split) <;> first | rfl | omega))
  have hc3' := hc3
  (try simp only [V.cnd, ne_eq] at hc3')
  refine CD.skip ?_
  refine CD.seq ?_
  refine sr_ ?_
  refine os_ (fa_ 6) ?_
  refine os_ (lb_ 0) ?_
  refine oc_ call66 (wherec_vp hm hw s.wher (fun o h => (hf.w o h).1)) ?_
  refine om_ ?_
  refine on_ [(1, _), (4, _)] [⟨b1, 32, 12, [_, _, _, _, _, _, _, _, _, _, _, _]⟩] ?_
  refine sr_ ?_
  refine om_ ?_
  refine os_ bn_ ?_
  refine nm_ [1, 4, 42] ?_
  refine CD.cond ot (fun hc4 => ?_) (fun hc4 => ?_)
  ·have hc4' := hc4
   (try simp only [V.cnd, ne_eq] at hc4')
   refine sr_ ?_
   refine om_ ?_
   refine om_ ?_
   refine nm_ [2] ?_
   refine CD.ret ?_
   refine r1_ ?_
   refine ⟨vi ?_, rfl⟩
   unfold pickF eqS
   simp_all
   all_goals (try (intros; (repeat' split) <;> first | rfl | omega))
  have hc4' := hc4
  (try simp only [V.cnd, ne_eq] at hc4')
  refine CD.skip ?_
  refine CD.seq ?_
  refine sr_ ?_
  refine os_ (fa_ 7) ?_
  refine os_ (lb_ 0) ?_
  refine os_ bn_ ?_
  refine nm_ [1, 46] ?_
  refine CD.cond ot (fun hc5 => ?_) (fun hc5 => ?_)
  ·have hc5' := hc5
   (try simp only [V.cnd, ne_eq] at hc5')
   refine sr_ ?_
   refine os_ (fa_ 7) ?_
   refine os_ (lb_ 0) ?_
   refine oc_ call61 (name_vp hm hw s.order hf.o) ?_
   refine om_ ?_
   refine on_ [(2, _)] [⟨b1, 32, 12, [_, _, _, _, _, _, _, _, _, _, _, _]⟩] ?_
   refine CD.ret ?_
   refine ⟨.inr rfl, rt_ results64 ?_⟩
   refine ⟨vi ?_, rfl⟩
   unfold pickF eqS
   simp_all
   all_goals (try (intros; (repeat' split) <;> first | rfl | omega))
  have hc5' := hc5
  (try simp only [V.cnd, ne_eq] at hc5')
  refine CD.skip ?_
  refine sr_ ?_
  refine om_ ?_
  refine nm_ [2] ?_
  refine CD.ret ?_
  refine r1_ ?_
  refine ⟨vi ?_, rfl⟩
  unfold pickF eqS
  simp_all
  all_goals (try (intros; (repeat' split) <;> first | rfl | omega))
 have hg26' := hg26; (try simp only [V.cnd, ne_eq] at hg26')
 refine sk_ ?_
 refine sk_ ?_
 refine sk_ ?_
 refine os_ pkF_ ?_
 refine os_ pkF_ ?_
 refine om_ ?_
 refine nm_ [1, 14] ?_
 refine CD.condF ot (by first | rfl | assumption) ?_
 refine CD.skip ?_
 refine CD.seq ?_
 refine sr_ ?_
 refine os_ (fa_ 4) ?_
 refine os_ (lb_ 0) ?_
 refine oc_ call85 (names_vp hm hw s.names (by have := hf.ok.2.2.1; omega) hf.n) ?_
 refine om_ ?_
 refine on_ [(1, _), (3, _)] [⟨b1, 32, 12, [_, _, _, _, _, _, _, _, _, _, _, _]⟩] ?_
 refine sr_ ?_
 refine om_ ?_
 refine os_ bn_ ?_
 refine nm_ [1, 3, 36] ?_
 refine CD.cond ot (fun hc3 => ?_) (fun hc3 => ?_)
 ·have hc3' := hc3
  (try simp only [V.cnd, ne_eq] at hc3')
  refine sr_ ?_
  refine om_ ?_
  refine om_ ?_
  refine nm_ [2] ?_
  refine CD.ret ?_
  refine r1_ ?_
  refine ⟨vi ?_, rfl⟩
  unfold pickF eqS
  simp_all
  all_goals (try (intros; (repeat' split) <;> first | rfl | omega))
 have hc3' := hc3
 (try simp only [V.cnd, ne_eq] at hc3')
 refine CD.skip ?_
 refine CD.seq ?_
 refine sr_ ?_
 refine os_ (fa_ 6) ?_
 refine os_ (lb_ 0) ?_
 refine oc_ call66 (wherec_vp hm hw s.wher (fun o h => (hf.w o h).1)) ?_
 refine om_ ?_
 refine on_ [(1, _), (4, _)] [⟨b1, 32, 12, [_, _, _, _, _, _, _, _, _, _, _, _]⟩] ?_
 refine sr_ ?_
 refine om_ ?_
 refine os_ bn_ ?_
 refine nm_ [1, 4, 42] ?_
 refine CD.cond ot (fun hc4 => ?_) (fun hc4 => ?_)
 ·have hc4' := hc4
  (try simp only [V.cnd, ne_eq] at hc4')
  refine sr_ ?_
  refine om_ ?_
  refine om_ ?_
  refine nm_ [2] ?_
  refine CD.ret ?_
  refine r1_ ?_
  refine ⟨vi ?_, rfl⟩
  unfold pickF eqS
  simp_all
  all_goals (try (intros; (repeat' split) <;> first | rfl | omega))
 have hc4' := hc4
 (try simp only [V.cnd, ne_eq] at hc4')
 refine CD.skip ?_
 refine CD.seq ?_
 refine sr_ ?_
 refine os_ (fa_ 7) ?_
 refine os_ (lb_ 0) ?_
 refine os_ bn_ ?_
 refine nm_ [1, 46] ?_
 refine CD.cond ot (fun hc5 => ?_) (fun hc5 => ?_)
 ·have hc5' := hc5
  (try simp only [V.cnd, ne_eq] at hc5')
  refine sr_ ?_
  refine os_ (fa_ 7) ?_
  refine os_ (lb_ 0) ?_
  refine oc_ call61 (name_vp hm hw s.order hf.o) ?_
  refine om_ ?_
  refine on_ [(2, _)] [⟨b1, 32, 12, [_, _, _, _, _, _, _, _, _, _, _, _]⟩] ?_
  refine CD.ret ?_
  refine ⟨.inr rfl, rt_ results64 ?_⟩
  refine ⟨vi ?_, rfl⟩
  unfold pickF eqS
  simp_all
  all_goals (try (intros; (repeat' split) <;> first | rfl | omega))
 have hc5' := hc5
 (try simp only [V.cnd, ne_eq] at hc5')
 refine CD.skip ?_
 refine sr_ ?_
 refine om_ ?_
 refine nm_ [2] ?_
 refine CD.ret ?_
 refine r1_ ?_
 refine ⟨vi ?_, rfl⟩
 unfold pickF eqS
 simp_all
 all_goals (try (intros; (repeat' split) <;> first | rfl | omega))

theorem bare_vp (s h : StL) : VP Tryd.prog G 67 [.agg (cSt s), .agg (cSt h)] (.v (.bool (bareF s h))) := by
 refine VC.body func67 rfl ntmps67 le_ fun X0 w0 S00 => ?_
 unfold cSt
 refine sr_ ?_
 refine OD.box (ds := [_, _, _, _, _, _, _, _, _, _, _, _]) wp_ rfl rfl ot rfl rfl (fun b2 => ?_)
 refine OD.box (ds := [_, _, _, _, _, _, _, _, _, _, _, _]) wp_ rfl rfl ot rfl rfl (fun b3 => ?_)
 refine om_ ?_
 refine on_ [(2, _), (3, _)] [⟨b3, 32, 12, [_, _, _, _, _, _, _, _, _, _, _, _]⟩, ⟨b2, 32, 12, [_, _, _, _, _, _, _, _, _, _, _, _]⟩] ?_
 refine sr_ ?_
 refine os_ (fa_ 1) ?_
 refine os_ (lb_ 1) ?_
 refine os_ (fa_ 1) ?_
 refine os_ (lb_ 0) ?_
 refine os_ bn_ ?_
 refine om_ ?_
 refine OD.split (t := 10) lk (fun hg10 => ?_) (fun hg10 => ?_)
 ·have hg10' := hg10; (try simp only [V.cnd, ne_eq] at hg10')
  refine os_ (fa_ 2) ?_
  refine os_ (lb_ 1) ?_
  refine os_ ln_ ?_
  refine os_ (fa_ 2) ?_
  refine os_ (lb_ 0) ?_
  refine os_ ln_ ?_
  refine os_ bn_ ?_
  refine os_ pkT_ ?_
  refine om_ ?_
  refine OD.split (t := 19) lk (fun hg19 => ?_) (fun hg19 => ?_)
  ·have hg19' := hg19; (try simp only [V.cnd, ne_eq] at hg19')
   refine os_ (fa_ 3) ?_
   refine os_ (lb_ 1) ?_
   refine os_ ln_ ?_
   refine os_ (fa_ 3) ?_
   refine os_ (lb_ 0) ?_
   refine os_ ln_ ?_
   refine os_ bn_ ?_
   refine os_ pkT_ ?_
   refine om_ ?_
   refine OD.split (t := 28) lk (fun hg28 => ?_) (fun hg28 => ?_)
   ·have hg28' := hg28; (try simp only [V.cnd, ne_eq] at hg28')
    refine os_ (fa_ 4) ?_
    refine os_ (lb_ 1) ?_
    refine os_ ln_ ?_
    refine os_ (fa_ 4) ?_
    refine os_ (lb_ 0) ?_
    refine os_ ln_ ?_
    refine os_ bn_ ?_
    refine os_ pkT_ ?_
    refine om_ ?_
    refine OD.split (t := 37) lk (fun hg37 => ?_) (fun hg37 => ?_)
    ·have hg37' := hg37; (try simp only [V.cnd, ne_eq] at hg37')
     refine os_ (fa_ 5) ?_
     refine os_ (lb_ 1) ?_
     refine os_ (fa_ 5) ?_
     refine os_ (lb_ 0) ?_
     refine OD.still wt_ rfl (still_bin rfl ot ot (bin_beql underlying4)) ?_
     refine os_ pkT_ ?_
     refine om_ ?_
     refine OD.split (t := 44) lk (fun hg44 => ?_) (fun hg44 => ?_)
     ·have hg44' := hg44; (try simp only [V.cnd, ne_eq] at hg44')
      refine os_ (fa_ 6) ?_
      refine os_ (lb_ 1) ?_
      refine os_ ln_ ?_
      refine os_ (fa_ 6) ?_
      refine os_ (lb_ 0) ?_
      refine os_ ln_ ?_
      refine os_ bn_ ?_
      refine os_ pkT_ ?_
      refine om_ ?_
      refine OD.split (t := 53) lk (fun hg53 => ?_) (fun hg53 => ?_)
      ·have hg53' := hg53; (try simp only [V.cnd, ne_eq] at hg53')
       refine os_ (fa_ 7) ?_
       refine os_ (lb_ 1) ?_
       refine os_ (fa_ 7) ?_
       refine os_ (lb_ 0) ?_
       refine os_ bn_ ?_
       refine os_ pkT_ ?_
       refine om_ ?_
       refine OD.split (t := 60) lk (fun hg60 => ?_) (fun hg60 => ?_)
       ·have hg60' := hg60; (try simp only [V.cnd, ne_eq] at hg60')
        refine os_ (fa_ 8) ?_
        refine os_ (lb_ 1) ?_
        refine os_ (fa_ 8) ?_
        refine os_ (lb_ 0) ?_
        refine OD.still wt_ rfl (still_bin rfl ot ot (bin_beql underlying4)) ?_
        refine os_ pkT_ ?_
        refine om_ ?_
        refine OD.split (t := 67) lk (fun hg67 => ?_) (fun hg67 => ?_)
        ·have hg67' := hg67; (try simp only [V.cnd, ne_eq] at hg67')
         refine os_ (fa_ 9) ?_
         refine os_ (lb_ 1) ?_
         refine os_ (fa_ 9) ?_
         refine os_ (lb_ 0) ?_
         refine os_ bn_ ?_
         refine os_ pkT_ ?_
         refine om_ ?_
         refine OD.split (t := 74) lk (fun hg74 => ?_) (fun hg74 => ?_)
         ·have hg74' := hg74; (try simp only [V.cnd, ne_eq] at hg74')
          refine os_ (fa_ 10) ?_
          refine os_ (lb_ 1) ?_
          refine os_ (fa_ 10) ?_
          refine os_ (lb_ 0) ?_
          refine os_ bn_ ?_
          refine os_ pkT_ ?_
          refine om_ ?_
          refine OD.split (t := 81) lk (fun hg81 => ?_) (fun hg81 => ?_)
          ·have hg81' := hg81; (try simp only [V.cnd, ne_eq] at hg81')
           refine os_ (fa_ 11) ?_
           refine os_ (lb_ 1) ?_
           refine os_ ln_ ?_
           refine os_ (fa_ 11) ?_
           refine os_ (lb_ 0) ?_
           refine os_ ln_ ?_
           refine os_ bn_ ?_
           refine os_ pkT_ ?_
           refine om_ ?_
           refine on_ [(4, _)] [⟨b3, 32, 12, [_, _, _, _, _, _, _, _, _, _, _, _]⟩, ⟨b2, 32, 12, [_, _, _, _, _, _, _, _, _, _, _, _]⟩] ?_
           refine CD.ret ?_
           refine ⟨.inr rfl, rt_ results67 ?_⟩
           refine ⟨vb ?_, rfl⟩
           unfold bareF eqS
           simp_all
           all_goals (try (intros; omega))
          have hg81' := hg81; (try simp only [V.cnd, ne_eq] at hg81')
          refine sk_ ?_
          refine sk_ ?_
          refine sk_ ?_
          refine sk_ ?_
          refine sk_ ?_
          refine sk_ ?_
          refine sk_ ?_
          refine os_ pkF_ ?_
          refine om_ ?_
          refine on_ [(4, _)] [⟨b3, 32, 12, [_, _, _, _, _, _, _, _, _, _, _, _]⟩, ⟨b2, 32, 12, [_, _, _, _, _, _, _, _, _, _, _, _]⟩] ?_
          refine CD.ret ?_
          refine ⟨.inr rfl, rt_ results67 ?_⟩
          refine ⟨vb ?_, rfl⟩
          unfold bareF eqS
          simp_all
          all_goals (try (intros; omega))
         have hg74' := hg74; (try simp only [V.cnd, ne_eq] at hg74')
         refine sk_ ?_
         refine sk_ ?_
         refine sk_ ?_
         refine sk_ ?_
         refine sk_ ?_
         refine os_ pkF_ ?_
         refine om_ ?_
         refine sk_ ?_
         refine sk_ ?_
         refine sk_ ?_
         refine sk_ ?_
         refine sk_ ?_
         refine sk_ ?_
         refine sk_ ?_
         refine os_ pkF_ ?_
         refine om_ ?_
         refine on_ [(4, _)] [⟨b3, 32, 12, [_, _, _, _, _, _, _, _, _, _, _, _]⟩, ⟨b2, 32, 12, [_, _, _, _, _, _, _, _, _, _, _, _]⟩] ?_
         refine CD.ret ?_
         refine ⟨.inr rfl, rt_ results67 ?_⟩
         refine ⟨vb ?_, rfl⟩
         unfold bareF eqS
         simp_all
         all_goals (try (intros; omega))
        have hg67' := hg67; (try simp only [V.cnd, ne_eq] at hg67')
        refine sk_ ?_
        refine sk_ ?_
        refine sk_ ?_
        refine sk_ ?_
        refine sk_ ?_
        refine os_ pkF_ ?_
        refine om_ ?_
        refine sk_ ?_
        refine sk_ ?_
        refine sk_ ?_
        refine sk_ ?_
        refine sk_ ?_
        refine os_ pkF_ ?_
        refine om_ ?_
        refine sk_ ?_
        refine sk_ ?_
        refine sk_ ?_
        refine sk_ ?_
        refine sk_ ?_
        refine sk_ ?_
        refine sk_ ?_
        refine os_ pkF_ ?_
        refine om_ ?_
        refine on_ [(4, _)] [⟨b3, 32, 12, [_, _, _, _, _, _, _, _, _, _, _, _]⟩, ⟨b2, 32, 12, [_, _, _, _, _, _, _, _, _, _, _, _]⟩] ?_
        refine CD.ret ?_
        refine ⟨.inr rfl, rt_ results67 ?_⟩
        refine ⟨vb ?_, rfl⟩
        unfold bareF eqS
        simp_all
        all_goals (try (intros; omega))
       have hg60' := hg60; (try simp only [V.cnd, ne_eq] at hg60')
       refine sk_ ?_
       refine sk_ ?_
       refine sk_ ?_
       refine sk_ ?_
       refine sk_ ?_
       refine os_ pkF_ ?_
       refine om_ ?_
       refine sk_ ?_
       refine sk_ ?_
       refine sk_ ?_
       refine sk_ ?_
       refine sk_ ?_
       refine os_ pkF_ ?_
       refine om_ ?_
       refine sk_ ?_
       refine sk_ ?_
       refine sk_ ?_
       refine sk_ ?_
       refine sk_ ?_
       refine os_ pkF_ ?_
       refine om_ ?_
       refine sk_ ?_
       refine sk_ ?_
       refine sk_ ?_
       refine sk_ ?_
       refine sk_ ?_
       refine sk_ ?_
       refine sk_ ?_
       refine os_ pkF_ ?_
       refine om_ ?_
       refine on_ [(4, _)] [⟨b3, 32, 12, [_, _, _, _, _, _, _, _, _, _, _, _]⟩, ⟨b2, 32, 12, [_, _, _, _, _, _, _, _, _, _, _, _]⟩] ?_
       refine CD.ret ?_
       refine ⟨.inr rfl, rt_ results67 ?_⟩
       refine ⟨vb ?_, rfl⟩
       unfold bareF eqS
       simp_all
       all_goals (try (intros; omega))
      have hg53' := hg53; (try simp only [V.cnd, ne_eq] at hg53')
      refine sk_ ?_
      refine sk_ ?_
      refine sk_ ?_
      refine sk_ ?_
      refine sk_ ?_
      refine os_ pkF_ ?_
      refine om_ ?_
      refine sk_ ?_
      refine sk_ ?_
      refine sk_ ?_
      refine sk_ ?_
      refine sk_ ?_
      refine os_ pkF_ ?_
      refine om_ ?_
      refine sk_ ?_
      refine sk_ ?_
      refine sk_ ?_
      refine sk_ ?_
      refine sk_ ?_
      refine os_ pkF_ ?_
      refine om_ ?_
      refine sk_ ?_
      refine sk_ ?_
      refine sk_ ?_
      refine sk_ ?_
      refine sk_ ?_
      refine os_ pkF_ ?_
      refine om_ ?_
      refine sk_ ?_
      refine sk_ ?_
      refine sk_ ?_
      refine sk_ ?_
      refine sk_ ?_
      refine sk_ ?_
      refine sk_ ?_
      refine os_ pkF_ ?_
      refine om_ ?_
      refine on_ [(4, _)] [⟨b3, 32, 12, [_, _, _, _, _, _, _, _, _, _, _, _]⟩, ⟨b2, 32, 12, [_, _, _, _, _, _, _, _, _, _, _, _]⟩] ?_
      refine CD.ret ?_
      refine ⟨.inr rfl, rt_ results67 ?_⟩
      refine ⟨vb ?_, rfl⟩
      unfold bareF eqS
      simp_all
      all_goals (try (intros; omega))
     have hg44' := hg44; (try simp only [V.cnd, ne_eq] at hg44')
     refine sk_ ?_
     refine sk_ ?_
     refine sk_ ?_
     refine sk_ ?_
     refine sk_ ?_
     refine sk_ ?_
     refine sk_ ?_
     refine os_ pkF_ ?_
     refine om_ ?_
     refine sk_ ?_
     refine sk_ ?_
     refine sk_ ?_
     refine sk_ ?_
     refine sk_ ?_
     refine os_ pkF_ ?_
     refine om_ ?_
     refine sk_ ?_
     refine sk_ ?_
     refine sk_ ?_
     refine sk_ ?_
     refine sk_ ?_
     refine os_ pkF_ ?_
     refine om_ ?_
     refine sk_ ?_
     refine sk_ ?_
     refine sk_ ?_
     refine sk_ ?_
     refine sk_ ?_
     refine os_ pkF_ ?_
     refine om_ ?_
     refine sk_ ?_
     refine sk_ ?_
     refine sk_ ?_
     refine sk_ ?_
     refine sk_ ?_
     refine os_ pkF_ ?_
     refine om_ ?_
     refine sk_ ?_
     refine sk_ ?_
     refine sk_ ?_
     refine sk_ ?_
     refine sk_ ?_
     refine sk_ ?_
     refine sk_ ?_
     refine os_ pkF_ ?_
     refine om_ ?_
     refine on_ [(4, _)] [⟨b3, 32, 12, [_, _, _, _, _, _, _, _, _, _, _, _]⟩, ⟨b2, 32, 12, [_, _, _, _, _, _, _, _, _, _, _, _]⟩] ?_
     refine CD.ret ?_
     refine ⟨.inr rfl, rt_ results67 ?_⟩
     refine ⟨vb ?_, rfl⟩
     unfold bareF eqS
     simp_all
     all_goals (try (intros; omega))
    have hg37' := hg37; (try simp only [V.cnd, ne_eq] at hg37')
    refine sk_ ?_
    refine sk_ ?_
    refine sk_ ?_
    refine sk_ ?_
    refine sk_ ?_
    refine os_ pkF_ ?_
    refine om_ ?_
    refine sk_ ?_
    refine sk_ ?_
    refine sk_ ?_
    refine sk_ ?_
    refine sk_ ?_
    refine sk_ ?_
    refine sk_ ?_
    refine os_ pkF_ ?_
    refine om_ ?_
    refine sk_ ?_
    refine sk_ ?_
    refine sk_ ?_
    refine sk_ ?_
    refine sk_ ?_
    refine os_ pkF_ ?_
    refine om_ ?_
    refine sk_ ?_
    refine sk_ ?_
    refine sk_ ?_
    refine sk_ ?_
    refine sk_ ?_
    refine os_ pkF_ ?_
    refine om_ ?_
    refine sk_ ?_
    refine sk_ ?_
    refine sk_ ?_
    refine sk_ ?_
    refine sk_ ?_
    refine os_ pkF_ ?_
    refine om_ ?_
    refine sk_ ?_
    refine sk_ ?_
    refine sk_ ?_
    refine sk_ ?_
    refine sk_ ?_
    refine os_ pkF_ ?_
    refine om_ ?_
    refine sk_ ?_
    refine sk_ ?_
    refine sk_ ?_
    refine sk_ ?_
    refine sk_ ?_
    refine sk_ ?_
    refine sk_ ?_
    refine os_ pkF_ ?_
    refine om_ ?_
    refine nm_ [4] ?_
    refine CD.ret ?_
    refine r1_ ?_
    refine ⟨vb ?_, rfl⟩
    unfold bareF eqS
    simp_all
    all_goals (try (intros; omega))
   have hg28' := hg28; (try simp only [V.cnd, ne_eq] at hg28')
   refine sk_ ?_
   refine sk_ ?_
   refine sk_ ?_
   refine sk_ ?_
   refine sk_ ?_
   refine sk_ ?_
   refine sk_ ?_
   refine os_ pkF_ ?_
   refine om_ ?_
   refine sk_ ?_
   refine sk_ ?_
   refine sk_ ?_
   refine sk_ ?_
   refine sk_ ?_
   refine os_ pkF_ ?_
   refine om_ ?_
   refine sk_ ?_
   refine sk_ ?_
   refine sk_ ?_
   refine sk_ ?_
   refine sk_ ?_
   refine sk_ ?_
   refine sk_ ?_
   refine os_ pkF_ ?_
   refine om_ ?_
   refine sk_ ?_
   refine sk_ ?_
   refine sk_ ?_
   refine sk_ ?_
   refine sk_ ?_
   refine os_ pkF_ ?_
   refine om_ ?_
   refine sk_ ?_
   refine sk_ ?_
   refine sk_ ?_
   refine sk_ ?_
   refine sk_ ?_
   refine os_ pkF_ ?_
   refine om_ ?_
   refine sk_ ?_
   refine sk_ ?_
   refine sk_ ?_
   refine sk_ ?_
   refine sk_ ?_
   refine os_ pkF_ ?_
   refine om_ ?_
   refine sk_ ?_
   refine sk_ ?_
   refine sk_ ?_
   refine sk_ ?_
   refine sk_ ?_
   refine os_ pkF_ ?_
   refine om_ ?_
   refine sk_ ?_
   refine sk_ ?_
   refine sk_ ?_
   refine sk_ ?_
   refine sk_ ?_
   refine sk_ ?_
   refine sk_ ?_
   refine os_ pkF_ ?_
   refine om_ ?_
   refine nm_ [4] ?_
   refine CD.ret ?_
   refine r1_ ?_
   refine ⟨vb ?_, rfl⟩
   unfold bareF eqS
   simp_all
   all_goals (try (intros; omega))
  have hg19' := hg19; (try simp only [V.cnd, ne_eq] at hg19')
  refine sk_ ?_
  refine sk_ ?_
  refine sk_ ?_
  refine sk_ ?_
  refine sk_ ?_
  refine sk_ ?_
  refine sk_ ?_
  refine os_ pkF_ ?_
  refine om_ ?_
  refine sk_ ?_
  refine sk_ ?_
  refine sk_ ?_
  refine sk_ ?_
  refine sk_ ?_
  refine sk_ ?_
  refine sk_ ?_
  refine os_ pkF_ ?_
  refine om_ ?_
  refine sk_ ?_
  refine sk_ ?_
  refine sk_ ?_
  refine sk_ ?_
  refine sk_ ?_
  refine os_ pkF_ ?_
  refine om_ ?_
  refine sk_ ?_
  refine sk_ ?_
  refine sk_ ?_
  refine sk_ ?_
  refine sk_ ?_
  refine sk_ ?_
  refine sk_ ?_
  refine os_ pkF_ ?_
  refine om_ ?_
  refine sk_ ?_
  refine sk_ ?_
  refine sk_ ?_
  refine sk_ ?_
  refine sk_ ?_
  refine os_ pkF_ ?_
  refine om_ ?_
  refine sk_ ?_
  refine sk_ ?_
  refine sk_ ?_
  refine sk_ ?_
  refine sk_ ?_
  refine os_ pkF_ ?_
  refine om_ ?_
  refine sk_ ?_
  refine sk_ ?_
  refine sk_ ?_
  refine sk_ ?_
  refine sk_ ?_
  refine os_ pkF_ ?_
  refine om_ ?_
  refine sk_ ?_
  refine sk_ ?_
  refine sk_ ?_
  refine sk_ ?_
  refine sk_ ?_
  refine os_ pkF_ ?_
  refine om_ ?_
  refine sk_ ?_
  refine sk_ ?_
  refine sk_ ?_
  refine sk_ ?_
  refine sk_ ?_
  refine sk_ ?_
  refine sk_ ?_
  refine os_ pkF_ ?_
  refine om_ ?_
  refine nm_ [4] ?_
  refine CD.ret ?_
  refine r1_ ?_
  refine ⟨vb ?_, rfl⟩
  unfold bareF eqS
  simp_all
  all_goals (try (intros; omega))
 have hg10' := hg10; (try simp only [V.cnd, ne_eq] at hg10')
 refine sk_ ?_
 refine sk_ ?_
 refine sk_ ?_
 refine sk_ ?_
 refine sk_ ?_
 refine sk_ ?_
 refine sk_ ?_
 refine os_ pkF_ ?_
 refine om_ ?_
 refine sk_ ?_
 refine sk_ ?_
 refine sk_ ?_
 refine sk_ ?_
 refine sk_ ?_
 refine sk_ ?_
 refine sk_ ?_
 refine os_ pkF_ ?_
 refine om_ ?_
 refine sk_ ?_
 refine sk_ ?_
 refine sk_ ?_
 refine sk_ ?_
 refine sk_ ?_
 refine sk_ ?_
 refine sk_ ?_
 refine os_ pkF_ ?_
 refine om_ ?_
 refine sk_ ?_
 refine sk_ ?_
 refine sk_ ?_
 refine sk_ ?_
 refine sk_ ?_
 refine os_ pkF_ ?_
 refine om_ ?_
 refine sk_ ?_
 refine sk_ ?_
 refine sk_ ?_
 refine sk_ ?_
 refine sk_ ?_
 refine sk_ ?_
 refine sk_ ?_
 refine os_ pkF_ ?_
 refine om_ ?_
 refine sk_ ?_
 refine sk_ ?_
 refine sk_ ?_
 refine sk_ ?_
 refine sk_ ?_
 refine os_ pkF_ ?_
 refine om_ ?_
 refine sk_ ?_
 refine sk_ ?_
 refine sk_ ?_
 refine sk_ ?_
 refine sk_ ?_
 refine os_ pkF_ ?_
 refine om_ ?_
 refine sk_ ?_
 refine sk_ ?_
 refine sk_ ?_
 refine sk_ ?_
 refine sk_ ?_
 refine os_ pkF_ ?_
 refine om_ ?_
 refine sk_ ?_
 refine sk_ ?_
 refine sk_ ?_
 refine sk_ ?_
 refine sk_ ?_
 refine os_ pkF_ ?_
 refine om_ ?_
 refine sk_ ?_
 refine sk_ ?_
 refine sk_ ?_
 refine sk_ ?_
 refine sk_ ?_
 refine sk_ ?_
 refine sk_ ?_
 refine os_ pkF_ ?_
 refine om_ ?_
 refine nm_ [4] ?_
 refine CD.ret ?_
 refine r1_ ?_
 refine ⟨vb ?_, rfl⟩
 unfold bareF eqS
 simp_all
 all_goals (try (intros; omega))

theorem info24_Pe3 : (Tryd.prog.info? 24).map (fun i => (i.zero, i.size, i.bytes)) = some (some (.agg #[.int .i64 0, .string ⟨#[]⟩, .int .i64 0]), 3, 32) := by kernel_rfl

theorem showWhere_vp (l : List OpL) (hl : l.length ≤ 40) (he : l.length = 0 ∨ exprL 0 l = 0) (hr : ∀ o ∈ l, -9223372036854775808 ≤ o.v.n ∧ o.v.n ≤ 9223372036854775807) (hsl : (showO l).length ≤ 1000) : VP Tryd.prog G 60 [.list 5 (l.flatMap cO) l.length] (.list 3 ((showW l).flatMap cT) (showW l).length) := by
 refine VC.body func60 rfl ntmps60 le_ fun X0 w0 S00 => ?_
 refine sr_ ?_
 refine om_ ?_
 refine nm_ [0] ?_
 refine CD.seq ?_
 refine sr_ ?_
 refine om_ ?_
 refine os_ ln_ ?_
 refine os_ bn_ ?_
 refine nm_ [0, 5] ?_
 refine CD.cond ot (fun hc0 => ?_) (fun hc0 => ?_)
 ·have hc0' := hc0
  (try simp only [V.cnd, ne_eq] at hc0')
  have hend : showW l = [] := if_pos (by simp at hc0; omega)
  refine sr_ ?_
  refine om_ ?_
  refine nm_ [2] ?_
  refine CD.wk (Wk.giveNil (t := 2) (sz := 3) lk) ?_
  refine CD.ret ?_
  refine r1_ ?_
  rw [hend]; exact ⟨rfl, rfl⟩
 have hc0' := hc0
 (try simp only [V.cnd, ne_eq] at hc0')
 have hend : showW l = [⟨#[87, 72, 69, 82, 69]⟩].map wordT ++ showO l := if_neg (by simp at hc0; omega)
 have he0 : exprL 0 l = 0 := he.resolve_left (by simp at hc0; omega)
 refine CD.skip ?_
 refine sr_ ?_
 refine ob_ (numD 0 [_]) [.string ⟨#[]⟩] [_] zeroValue9 runUnderlying29 sizeOf9 (fun b6 => ?_)
 refine OD.perm (perm_q11 (S1 := [⟨b6, 9, 1 * 1, List.flatMap cS ([⟨#[87, 72, 69, 82, 69]⟩])⟩]) (A := [])) ?_
 refine OD.giveL (t := 6) (Sq := [⟨b6, 9, 1 * 1, List.flatMap cS ([⟨#[87, 72, 69, 82, 69]⟩])⟩]) lk (ownL_row (g := cS) (sz := 1) (e := 9) (ls := [⟨#[87, 72, 69, 82, 69]⟩]) (Nat.le_refl _) (show 1 ≤ maxLen by decide)) (fm_len cS_len _) (perm_r11 (A := [])) ?_
 refine OD.call wp_ rfl rfl rfl call53 (all_vc [⟨#[87, 72, 69, 82, 69]⟩] (by show 1 ≤ 10; decide)) ⟨ot, trivial⟩ (perm_none _) ?_; rintro _ S7 ⟨ad7, cp7, rfl, ho7⟩
 refine OD.perm (S' := S7) (List.append_nil _ ▸ List.Perm.refl _) ?_
 refine om_ ?_
 refine oc_ call59 (showOps_vp l hl he0 hr) ?_
 refine OD.appendAny (ls := ([⟨#[87, 72, 69, 82, 69]⟩].map wordT)) (new := (showO l)) (Sq := S7) cT_len cT_one wp_ rfl rfl underlying26 info24_Pe3 rfl (by decide) runUnderlying26 sizeOf24 ot ho7 (perm_r11 (A := [])) ot (by simp only [maxLen, List.length_map, List.length_cons, List.length_nil]; omega) (by simp only [List.length_map, List.length_cons, List.length_nil]; omega) (fun ad10 cp10 S10 ho10 => ?_)
 refine OD.perm (perm_q11 (A := [])) ?_
 refine om_ ?_
 refine OD.wk (Wk.as_ (n := 11) (l' := [(2, _)]) (S' := (S10)) rfl rfl sl_) ?_
 refine OD.nil ?_
 refine CD.giveL (t := 2) (Sq := S10) lk ho10 (fm_len cT_len _) (perm_r11 (A := [])) ?_
 refine CD.ret ?_
 refine ⟨.inr rfl, rt_ results60 ?_⟩
 rw [hend]; exact ⟨rfl, rfl⟩

end Go.Proofs.YtjgekbmahhhokaaDoor.Pa

namespace Go.Proofs.YtjgekbmahhhokaaDoor.Pa
open Go.Proofs.Tryd
open Go.RowKit V Pk Go.Proofs.YtjgekbmahhhokaaDoor.Vl Go.Proofs.YtjgekbmahhhokaaDoor.Nm
variable {G : List (Nat × List Value)}
def tabS (s : StL) : ByteArray := if s.kind < 7 then s.table else ⟨#[]⟩
def hasS (s : StL) : StL :=
 if s.kind = 1 then { st0 with kind := s.kind, table := (tabS s), cols := s.cols } else if s.kind = 3 then { st0 with kind := s.kind, table := (tabS s), row := s.row } else if s.kind = 4 then { st0 with kind := s.kind, table := (tabS s), names := s.names, count := s.count, wher := s.wher, order := s.order, down := s.down, limit := s.limit } else if s.kind = 5 then { st0 with kind := s.kind, table := (tabS s), set := s.set, to := s.to, wher := s.wher } else if s.kind = 6 then { st0 with kind := s.kind, table := (tabS s), wher := s.wher } else { st0 with kind := s.kind, table := (tabS s) }
def errS (s : StL) : Int :=
 if s.kind = 1 then colsF s.cols else if s.kind = 3 then rowF s.row else if s.kind = 4 then pickF s
 else if s.kind = 5 then (if nameF s.set = 0 then (if exprF s.to = 0 then whereF s.wher else exprF s.to) else nameF s.set) else if s.kind = 6 then whereF s.wher else 0
def checkS (s : StL) : Int := if s.kind < 7 ∧ nameF s.table ≠ 0 then nameF s.table else if errS s = 0 ∧ bareF s (hasS s) = false then 6 else errS s

theorem places32_Pe4 : ∀ w, ((#[{ name := "Kind", type := 3, offset := 0, embedded := false, tag := "", pkgPath := "", byteOffset := 0 }, { name := "Table", type := 9, offset := 1, embedded := false, tag := "", pkgPath := "", byteOffset := 8 }, { name := "Cols", type := 27, offset := 2, embedded := false, tag := "", pkgPath := "", byteOffset := 24 }, { name := "Row", type := 28, offset := 3, embedded := false, tag := "", pkgPath := "", byteOffset := 48 }, { name := "Names", type := 29, offset := 4, embedded := false, tag := "", pkgPath := "", byteOffset := 72 }, { name := "Count", type := 4, offset := 5, embedded := false, tag := "", pkgPath := "", byteOffset := 96 }, { name := "Where", type := 30, offset := 6, embedded := false, tag := "", pkgPath := "", byteOffset := 104 }, { name := "Order", type := 9, offset := 7, embedded := false, tag := "", pkgPath := "", byteOffset := 128 }, { name := "Down", type := 4, offset := 8, embedded := false, tag := "", pkgPath := "", byteOffset := 144 }, { name := "Limit", type := 3, offset := 9, embedded := false, tag := "", pkgPath := "", byteOffset := 152 }, { name := "Set", type := 9, offset := 10, embedded := false, tag := "", pkgPath := "", byteOffset := 160 }, { name := "To", type := 30, offset := 11, embedded := false, tag := "", pkgPath := "", byteOffset := 176 }] : Array Field).mapM fun f => do pure (f.offset, ← sizeOf f.type) : Sem (Array (Nat × Nat))).run Tryd.prog w = .ok #[(0, 1), (1, 1), (2, 1), (3, 1), (4, 1), (5, 1), (6, 1), (7, 1), (8, 1), (9, 1), (10, 1), (11, 1)] w := fun w => by simp [sizeOf27, sizeOf28, sizeOf29, sizeOf3, sizeOf30, sizeOf4, sizeOf9]

theorem checkS_vp (hm : (0, marksC) ∈ G) (hw : (2, wordsC) ∈ G) (s : StL) (hf : FinS s) : VP Tryd.prog G 34 [.agg (cSt s)] (.v (.int .i64 (checkS s))) := by
 refine VC.body func34 rfl ntmps34 le_ fun X0 w0 S00 => ?_
 have pickc := pickc_vp hm hw s hf
 unfold cSt at pickc
 unfold cSt
 refine sr_ ?_
 refine OD.box (ds := [_, _, _, _, _, _, _, _, _, _, _, _]) wp_ rfl rfl ot rfl rfl (fun b1 => ?_)
 refine om_ ?_
 refine on_ [(1, _)] [⟨b1, 32, 12, [_, _, _, _, _, _, _, _, _, _, _, _]⟩] ?_
 refine sr_ ?_
 refine os_ (fa_ 0) ?_
 refine os_ (lb_ 0) ?_
 refine os_ (still_bld (pl := [(0, _), (9, _)]) (ds := [_, _, _, _, _, _, _, _, _, _, _, _]) rfl zeroValue32 runUnderlying32 places32_Pe4 ⟨rfl, ot, rfl, opd_const, trivial⟩ rfl rfl) ?_
 refine OD.alloc (ds := [_, _, _, _, _, _, _, _, _, _, _, _]) wp_ rfl rfl zeroValue32 rfl (fun b3 => ?_)
 refine ot_ 0 [_, _, _, _, _, _, _, _, _, _, _, _] sizeOf32 ?_
 refine on_ [(1, _), (3, _)] [⟨b3, 32, 12, [_, _, _, _, _, _, _, _, _, _, _, _]⟩, ⟨b1, 32, 12, [_, _, _, _, _, _, _, _, _, _, _, _]⟩] ?_
 refine CD.cut (fun y__ => ∃ (tb : ByteArray), (tb = tabS s) ∧ (¬ (s.kind < 7 ∧ nameF s.table ≠ 0)) ∧ y__ = (⟨102, [(1, .v (.pointer (some ⟨b1, 0, none⟩))), (3, .v (.pointer (some ⟨b3, 0, none⟩)))], [⟨b3, 32, 12, [.v (.int .i64 s.kind), .v (.string tb), .list 2 [] 0, .list 3 [] 0, .list 1 [] 0, .v (.bool false), .list 5 [] 0, .v (.string ⟨#[]⟩), .v (.bool false), .v (.int .i64 (-1)), .v (.string ⟨#[]⟩), .list 5 [] 0]⟩, ⟨b1, 32, 12, [.v (.int .i64 s.kind), .v (.string s.table), .list 2 (s.cols.flatMap cC) s.cols.length, .list 3 (s.row.flatMap cV) s.row.length, .list 1 (s.names.flatMap cS) s.names.length, .v (.bool s.count), .list 5 (s.wher.flatMap cO) s.wher.length, .v (.string s.order), .v (.bool s.down), .v (.int .i64 s.limit), .v (.string s.set), .list 5 (s.to.flatMap cO) s.to.length]⟩]⟩ : St)) ?_ ?_
 ·skip
  refine CD.seq ?_
  refine CD.cells (k := 0) (cs' := [_, _, .list 2 [] 0, .list 3 [] 0, .list 1 [] 0, _, .list 5 [] 0, _, _, _, _, .list 5 [] 0]) (S' := [_, _]) rfl (by repeat (first | exact trivial | exact ⟨gv_rfl, trivial⟩ | exact ⟨gv_nil, trivial⟩ | refine ⟨gv_rfl, ?_⟩ | refine ⟨gv_nil, ?_⟩)) rfl ?_
  refine CD.region ?_
  refine os_ (fa_ 0) ?_
  refine os_ (lb_ 1) ?_
  refine os_ bn_ ?_
  refine nm_ [1, 3, 11] ?_
  refine CD.cond ot (fun hc0 => ?_) (fun hc0 => ?_)
  ·have hc0' := hc0
   (try simp only [V.cnd, ne_eq] at hc0')
   refine sr_ ?_
   refine os_ (fa_ 1) ?_
   refine os_ (lb_ 1) ?_
   refine os_ (fa_ 1) ?_
   refine ot_ 0 [_, _, _, _, _, _, _, _, _, _, _, _] sizeOf9 ?_
   refine on_ [(1, _), (3, _)] [⟨b3, 32, 12, [_, _, _, _, _, _, _, _, _, _, _, _]⟩, ⟨b1, 32, 12, [_, _, _, _, _, _, _, _, _, _, _, _]⟩] ?_
   refine sr_ ?_
   refine os_ (fa_ 1) ?_
   refine os_ (lb_ 1) ?_
   refine oc_ call61 (name_vp hm hw s.table hf.t) ?_
   refine om_ ?_
   refine on_ [(1, _), (3, _), (4, _)] [⟨b3, 32, 12, [_, _, _, _, _, _, _, _, _, _, _, _]⟩, ⟨b1, 32, 12, [_, _, _, _, _, _, _, _, _, _, _, _]⟩] ?_
   refine sr_ ?_
   refine om_ ?_
   refine os_ bn_ ?_
   refine nm_ [1, 3, 4, 19] ?_
   refine CD.cond ot (fun hc1 => ?_) (fun hc1 => ?_)
   ·have hc1' := hc1
    (try simp only [V.cnd, ne_eq] at hc1')
    have hres : checkS s = nameF s.table := by unfold checkS; rw [if_pos ⟨hc0', by simpa using hc1⟩]
    refine sr_ ?_
    refine om_ ?_
    refine om_ ?_
    refine nm_ [2] ?_
    refine CD.ret ?_
    refine r1_ ?_
    exact ⟨by first | rw [hres] | rw [hres]; rfl, rfl⟩
   have hc1' := hc1
   (try simp only [V.cnd, ne_eq] at hc1')
   have hn0 : nameF s.table = 0 := by simpa using hc1
   have htb0 : s.table = tabS s := by unfold tabS; rw [if_pos hc0']
   have hnn0 : ¬ (s.kind < 7 ∧ nameF s.table ≠ 0) := fun h => h.2 hn0
   refine CD.skip ?_
   refine ⟨_, ?_, s.table, htb0, hnn0, rfl⟩
   exact Wk.asS (n := 102) rfl (List.Sublist.refl _) sq_
  have hc0' := hc0
  (try simp only [V.cnd, ne_eq] at hc0')
  have htb0 : (⟨#[]⟩ : ByteArray) = tabS s := by unfold tabS; rw [if_neg (by omega)]
  have hnn0 : ¬ (s.kind < 7 ∧ nameF s.table ≠ 0) := fun h => by omega
  refine CD.skip ?_
  refine ⟨_, ?_, ⟨#[]⟩, htb0, hnn0, rfl⟩
  exact Wk.asS (n := 102) rfl (List.Sublist.refl _) sq_
 rintro _ ⟨tb, htb, hnn, rfl⟩
 refine sr_ ?_
 refine om_ ?_
 refine nm_ [1, 3, 5] ?_
 refine CD.cut (fun y__ => ∃ (H : StL), ∃ (e : Int), (H = hasS s) ∧ (e = errS s) ∧ y__ = (⟨102, [(1, .v (.pointer (some ⟨b1, 0, none⟩))), (3, .v (.pointer (some ⟨b3, 0, none⟩))), (5, .v (.int .i64 e))], [⟨b3, 32, 12, [.v (.int .i64 H.kind), .v (.string H.table), .list 2 (H.cols.flatMap cC) H.cols.length, .list 3 (H.row.flatMap cV) H.row.length, .list 1 (H.names.flatMap cS) H.names.length, .v (.bool H.count), .list 5 (H.wher.flatMap cO) H.wher.length, .v (.string H.order), .v (.bool H.down), .v (.int .i64 H.limit), .v (.string H.set), .list 5 (H.to.flatMap cO) H.to.length]⟩, ⟨b1, 32, 12, [.v (.int .i64 s.kind), .v (.string s.table), .list 2 (s.cols.flatMap cC) s.cols.length, .list 3 (s.row.flatMap cV) s.row.length, .list 1 (s.names.flatMap cS) s.names.length, .v (.bool s.count), .list 5 (s.wher.flatMap cO) s.wher.length, .v (.string s.order), .v (.bool s.down), .v (.int .i64 s.limit), .v (.string s.set), .list 5 (s.to.flatMap cO) s.to.length]⟩]⟩ : St)) ?_ ?_
 ·skip
  refine sr_ ?_
  refine os_ (fa_ 0) ?_
  refine os_ (lb_ 1) ?_
  refine nm_ [1, 3, 5, 22] ?_
  refine CD.block ?_
  refine sr_ ?_
  refine os_ bn_ ?_
  refine om_ ?_
  refine nm_ [1, 3, 5, 22, 23] ?_
  refine CD.cond ot (fun hc2 => ?_) (fun hc2 => ?_)
  ·have hc2' := hc2
   (try simp only [V.cnd, ne_eq] at hc2')
   refine sr_ ?_
   refine os_ (fa_ 2) ?_
   refine os_ (lb_ 1) ?_
   refine os_ (fa_ 2) ?_
   refine ot_ 0 [_, _, _, _, _, _, _, _, _, _, _, _] sizeOf27 ?_
   refine on_ [(1, _), (3, _)] [⟨b3, 32, 12, [_, _, _, _, _, _, _, _, _, _, _, _]⟩, ⟨b1, 32, 12, [_, _, _, _, _, _, _, _, _, _, _, _]⟩] ?_
   refine CD.region ?_
   refine os_ (fa_ 2) ?_
   refine os_ (lb_ 1) ?_
   refine oc_ call62 (cols_vp hm hw s.cols (by have := hf.ok.1; simp only [maxLen]; omega) hf.c) ?_
   refine om_ ?_
   refine on_ [(1, _), (3, _), (5, _)] [⟨b3, 32, 12, [_, _, _, _, _, _, _, _, _, _, _, _]⟩, ⟨b1, 32, 12, [_, _, _, _, _, _, _, _, _, _, _, _]⟩] ?_
   refine ⟨_, ?_, { st0 with kind := s.kind, table := tb, cols := s.cols }, colsF s.cols, (by unfold hasS; rw [if_pos hc2', htb]), (by unfold errS; rw [if_pos hc2']), rfl⟩
   exact Wk.asS (n := 102) rfl (List.Sublist.refl _) sq_
  have hc2' := hc2
  (try simp only [V.cnd, ne_eq] at hc2')
  refine sr_ ?_
  refine os_ bn_ ?_
  refine om_ ?_
  refine nm_ [1, 3, 5, 22, 31] ?_
  refine CD.cond ot (fun hc3 => ?_) (fun hc3 => ?_)
  ·have hc3' := hc3
   (try simp only [V.cnd, ne_eq] at hc3')
   refine sr_ ?_
   refine os_ (fa_ 3) ?_
   refine os_ (lb_ 1) ?_
   refine os_ (fa_ 3) ?_
   refine ot_ 0 [_, _, _, _, _, _, _, _, _, _, _, _] sizeOf28 ?_
   refine on_ [(1, _), (3, _)] [⟨b3, 32, 12, [_, _, _, _, _, _, _, _, _, _, _, _]⟩, ⟨b1, 32, 12, [_, _, _, _, _, _, _, _, _, _, _, _]⟩] ?_
   refine CD.region ?_
   refine os_ (fa_ 3) ?_
   refine os_ (lb_ 1) ?_
   refine oc_ call63 (rowc_vp s.row (by have := hf.ok.2.1; omega)) ?_
   refine om_ ?_
   refine on_ [(1, _), (3, _), (5, _)] [⟨b3, 32, 12, [_, _, _, _, _, _, _, _, _, _, _, _]⟩, ⟨b1, 32, 12, [_, _, _, _, _, _, _, _, _, _, _, _]⟩] ?_
   refine ⟨_, ?_, { st0 with kind := s.kind, table := tb, row := s.row }, rowF s.row, (by unfold hasS; rw [if_neg hc2', if_pos hc3', htb]), (by unfold errS; rw [if_neg hc2', if_pos hc3']), rfl⟩
   exact Wk.asS (n := 102) rfl (List.Sublist.refl _) sq_
  have hc3' := hc3
  (try simp only [V.cnd, ne_eq] at hc3')
  refine sr_ ?_
  refine os_ bn_ ?_
  refine om_ ?_
  refine nm_ [1, 3, 5, 22, 39] ?_
  refine CD.cond ot (fun hc4 => ?_) (fun hc4 => ?_)
  ·have hc4' := hc4
   (try simp only [V.cnd, ne_eq] at hc4')
   refine CD.seq ?_
   refine CD.draw (bks (List.eraseIdx _ 0)) kr_ (fun _ h => (List.Sublist.map _ (List.eraseIdx_sublist _ 0)).subset h) ?_
   refine a0_ 0 rfl (fa_ 4) ?_
   refine a0_ 1 rfl (lb_ 1) ?_
   refine a0_ 2 rfl (fa_ 5) ?_
   refine a0_ 3 rfl (lb_ 1) ?_
   refine a0_ 4 rfl (fa_ 6) ?_
   refine a0_ 5 rfl (lb_ 1) ?_
   refine a0_ 6 rfl (fa_ 7) ?_
   refine a0_ 7 rfl (lb_ 1) ?_
   refine a0_ 8 rfl (fa_ 8) ?_
   refine a0_ 9 rfl (lb_ 1) ?_
   refine a0_ 10 rfl (fa_ 9) ?_
   refine a0_ 11 rfl (lb_ 1) ?_
   refine a0_ 12 rfl (fa_ 4) ?_
   refine AD0.later rfl ?_
   refine AD.one (i := 13) kr_ ?_
   refine as_ 0 [_, _, _, _, _, _, _, _, _, _, _, _] sizeOf29 ?_
   refine a1_ 14 rfl (fa_ 5) ?_
   refine AD.one (i := 15) kr_ ?_
   refine as_ 0 [_, _, _, _, _, _, _, _, _, _, _, _] sizeOf4 ?_
   refine a1_ 16 rfl (fa_ 6) ?_
   refine AD.one (i := 17) kr_ ?_
   refine as_ 0 [_, _, _, _, _, _, _, _, _, _, _, _] sizeOf30 ?_
   refine a1_ 18 rfl (fa_ 7) ?_
   refine AD.one (i := 19) kr_ ?_
   refine as_ 0 [_, _, _, _, _, _, _, _, _, _, _, _] sizeOf9 ?_
   refine a1_ 20 rfl (fa_ 8) ?_
   refine AD.one (i := 21) kr_ ?_
   refine as_ 0 [_, _, _, _, _, _, _, _, _, _, _, _] sizeOf4 ?_
   refine a1_ 22 rfl (fa_ 9) ?_
   refine AD.one (i := 23) kr_ ?_
   refine as_ 0 [_, _, _, _, _, _, _, _, _, _, _, _] sizeOf3 ?_
   refine aw_ [(1, _), (3, _)] [⟨b3, 32, 12, [_, _, _, _, _, _, _, _, _, _, _, _]⟩, ⟨b1, 32, 12, [_, _, _, _, _, _, _, _, _, _, _, _]⟩] ?_
   refine AD.done kr_ ?_
   refine CD.region ?_
   refine os_ (lab_ 1 [_, _, _, _, _, _, _, _, _, _, _, _]) ?_
   refine oc_ call64 (pickc) ?_
   refine om_ ?_
   refine on_ [(1, _), (3, _), (5, _)] [⟨b3, 32, 12, [_, _, _, _, _, _, _, _, _, _, _, _]⟩, ⟨b1, 32, 12, [_, _, _, _, _, _, _, _, _, _, _, _]⟩] ?_
   refine ⟨_, ?_, { st0 with kind := s.kind, table := tb, names := s.names, count := s.count, wher := s.wher, order := s.order, down := s.down, limit := s.limit }, pickF s, (by unfold hasS; rw [if_neg hc2', if_neg hc3', if_pos hc4', htb]), (by unfold errS; rw [if_neg hc2', if_neg hc3', if_pos hc4']), rfl⟩
   exact Wk.asS (n := 102) rfl (List.Sublist.refl _) sq_
  have hc4' := hc4
  (try simp only [V.cnd, ne_eq] at hc4')
  refine sr_ ?_
  refine os_ bn_ ?_
  refine om_ ?_
  refine nm_ [1, 3, 5, 22, 61] ?_
  refine CD.cond ot (fun hc5 => ?_) (fun hc5 => ?_)
  ·have hc5' := hc5
   (try simp only [V.cnd, ne_eq] at hc5')
   refine CD.seq ?_
   refine CD.draw (bks (List.eraseIdx _ 0)) kr_ (fun _ h => (List.Sublist.map _ (List.eraseIdx_sublist _ 0)).subset h) ?_
   refine a0_ 0 rfl (fa_ 10) ?_
   refine a0_ 1 rfl (lb_ 1) ?_
   refine a0_ 2 rfl (fa_ 11) ?_
   refine a0_ 3 rfl (lb_ 1) ?_
   refine a0_ 4 rfl (fa_ 6) ?_
   refine a0_ 5 rfl (lb_ 1) ?_
   refine a0_ 6 rfl (fa_ 10) ?_
   refine AD0.later rfl ?_
   refine AD.one (i := 7) kr_ ?_
   refine as_ 0 [_, _, _, _, _, _, _, _, _, _, _, _] sizeOf9 ?_
   refine a1_ 8 rfl (fa_ 11) ?_
   refine AD.one (i := 9) kr_ ?_
   refine as_ 0 [_, _, _, _, _, _, _, _, _, _, _, _] sizeOf30 ?_
   refine a1_ 10 rfl (fa_ 6) ?_
   refine AD.one (i := 11) kr_ ?_
   refine as_ 0 [_, _, _, _, _, _, _, _, _, _, _, _] sizeOf30 ?_
   refine aw_ [(1, _), (3, _)] [⟨b3, 32, 12, [_, _, _, _, _, _, _, _, _, _, _, _]⟩, ⟨b1, 32, 12, [_, _, _, _, _, _, _, _, _, _, _, _]⟩] ?_
   refine AD.done kr_ ?_
   refine CD.seq ?_
   refine sr_ ?_
   refine os_ (fa_ 10) ?_
   refine os_ (lb_ 1) ?_
   refine oc_ call61 (name_vp hm hw s.set hf.e) ?_
   refine om_ ?_
   refine on_ [(1, _), (3, _), (5, _)] [⟨b3, 32, 12, [_, _, _, _, _, _, _, _, _, _, _, _]⟩, ⟨b1, 32, 12, [_, _, _, _, _, _, _, _, _, _, _, _]⟩] ?_
   refine sr_ ?_
   refine om_ ?_
   refine os_ bn_ ?_
   refine nm_ [1, 3, 5, 76] ?_
   refine CD.cond ot (fun hc6 => ?_) (fun hc6 => ?_)
   ·have hc6' := hc6
    (try simp only [V.cnd, ne_eq] at hc6')
    have hn6 : nameF s.set = 0 := by simpa using hc6
    refine CD.region ?_
    refine os_ (fa_ 11) ?_
    refine os_ (lb_ 1) ?_
    refine oc_ call65 (expr_vp hm hw s.to (fun o h => (hf.x o h).1)) ?_
    refine om_ ?_
    refine on_ [(1, _), (3, _), (5, _)] [⟨b3, 32, 12, [_, _, _, _, _, _, _, _, _, _, _, _]⟩, ⟨b1, 32, 12, [_, _, _, _, _, _, _, _, _, _, _, _]⟩] ?_
    refine sr_ ?_
    refine om_ ?_
    refine os_ bn_ ?_
    refine nm_ [1, 3, 5, 81] ?_
    refine CD.cond ot (fun hc7 => ?_) (fun hc7 => ?_)
    ·have hc7' := hc7
     (try simp only [V.cnd, ne_eq] at hc7')
     have hn7 : exprF s.to = 0 := by simpa using hc7
     refine CD.region ?_
     refine os_ (fa_ 6) ?_
     refine os_ (lb_ 1) ?_
     refine oc_ call66 (wherec_vp hm hw s.wher (fun o h => (hf.w o h).1)) ?_
     refine om_ ?_
     refine on_ [(1, _), (3, _), (5, _)] [⟨b3, 32, 12, [_, _, _, _, _, _, _, _, _, _, _, _]⟩, ⟨b1, 32, 12, [_, _, _, _, _, _, _, _, _, _, _, _]⟩] ?_
     refine ⟨_, ?_, { st0 with kind := s.kind, table := tb, set := s.set, to := s.to, wher := s.wher }, whereF s.wher, (by unfold hasS; rw [if_neg hc2', if_neg hc3', if_neg hc4', if_pos hc5', htb]), (by unfold errS; rw [if_neg hc2', if_neg hc3', if_neg hc4', if_pos hc5', if_pos hn6, if_pos hn7]), rfl⟩
     exact Wk.asS (n := 102) rfl (List.Sublist.refl _) sq_
    have hc7' := hc7
    (try simp only [V.cnd, ne_eq] at hc7')
    have hn7 : ¬ exprF s.to = 0 := by simpa using hc7
    refine CD.skip ?_
    refine ⟨_, ?_, { st0 with kind := s.kind, table := tb, set := s.set, to := s.to, wher := s.wher }, exprF s.to, (by unfold hasS; rw [if_neg hc2', if_neg hc3', if_neg hc4', if_pos hc5', htb]), (by unfold errS; rw [if_neg hc2', if_neg hc3', if_neg hc4', if_pos hc5', if_pos hn6, if_neg hn7]), rfl⟩
    exact Wk.asS (n := 102) rfl (List.Sublist.refl _) sq_
   have hc6' := hc6
   (try simp only [V.cnd, ne_eq] at hc6')
   have hn6 : ¬ nameF s.set = 0 := by simpa using hc6
   refine CD.skip ?_
   refine sr_ ?_
   refine om_ ?_
   refine os_ bn_ ?_
   refine nm_ [1, 3, 5, 81] ?_
   refine CD.cond ot (fun hc7 => ?_) (fun hc7 => ?_)
   ·exact absurd hc7 (by simp [hn6])
   have hc7' := hc7
   (try simp only [V.cnd, ne_eq] at hc7')
   refine CD.skip ?_
   refine ⟨_, ?_, { st0 with kind := s.kind, table := tb, set := s.set, to := s.to, wher := s.wher }, nameF s.set, (by unfold hasS; rw [if_neg hc2', if_neg hc3', if_neg hc4', if_pos hc5', htb]), (by unfold errS; rw [if_neg hc2', if_neg hc3', if_neg hc4', if_pos hc5', if_neg hn6]), rfl⟩
   exact Wk.asS (n := 102) rfl (List.Sublist.refl _) sq_
  have hc5' := hc5
  (try simp only [V.cnd, ne_eq] at hc5')
  refine sr_ ?_
  refine os_ bn_ ?_
  refine om_ ?_
  refine nm_ [1, 3, 5, 85] ?_
  refine CD.cond ot (fun hc8 => ?_) (fun hc8 => ?_)
  ·have hc8' := hc8
   (try simp only [V.cnd, ne_eq] at hc8')
   refine sr_ ?_
   refine os_ (fa_ 6) ?_
   refine os_ (lb_ 1) ?_
   refine os_ (fa_ 6) ?_
   refine ot_ 0 [_, _, _, _, _, _, _, _, _, _, _, _] sizeOf30 ?_
   refine on_ [(1, _), (3, _)] [⟨b3, 32, 12, [_, _, _, _, _, _, _, _, _, _, _, _]⟩, ⟨b1, 32, 12, [_, _, _, _, _, _, _, _, _, _, _, _]⟩] ?_
   refine CD.region ?_
   refine os_ (fa_ 6) ?_
   refine os_ (lb_ 1) ?_
   refine oc_ call66 (wherec_vp hm hw s.wher (fun o h => (hf.w o h).1)) ?_
   refine om_ ?_
   refine on_ [(1, _), (3, _), (5, _)] [⟨b3, 32, 12, [_, _, _, _, _, _, _, _, _, _, _, _]⟩, ⟨b1, 32, 12, [_, _, _, _, _, _, _, _, _, _, _, _]⟩] ?_
   refine ⟨_, ?_, { st0 with kind := s.kind, table := tb, wher := s.wher }, whereF s.wher, (by unfold hasS; rw [if_neg hc2', if_neg hc3', if_neg hc4', if_neg hc5', if_pos hc8', htb]), (by unfold errS; rw [if_neg hc2', if_neg hc3', if_neg hc4', if_neg hc5', if_pos hc8']), rfl⟩
   exact Wk.asS (n := 102) rfl (List.Sublist.refl _) sq_
  have hc8' := hc8
  (try simp only [V.cnd, ne_eq] at hc8')
  refine CD.skip ?_
  refine ⟨_, ?_, { st0 with kind := s.kind, table := tb }, 0, (by unfold hasS; rw [if_neg hc2', if_neg hc3', if_neg hc4', if_neg hc5', if_neg hc8', htb]), (by unfold errS; rw [if_neg hc2', if_neg hc3', if_neg hc4', if_neg hc5', if_neg hc8']), rfl⟩
  exact Wk.asS (n := 102) rfl (List.Sublist.refl _) sq_
 rintro _ ⟨H, e, hH, heq, rfl⟩
 refine CD.seq ?_
 refine CD.seq ?_
 have hbare := bare_vp (G := G) s H
 unfold cSt at hbare
 refine CD.region ?_
 refine om_ ?_
 refine os_ bn_ ?_
 refine om_ ?_
 refine OD.split (t := 95) lk (fun hg95 => ?_) (fun hg95 => ?_)
 ·have hg95' := hg95; (try simp only [V.cnd, ne_eq] at hg95')
  refine os_ (lab_ 1 [_, _, _, _, _, _, _, _, _, _, _, _]) ?_
  refine os_ (lab_ 0 [_, _, _, _, _, _, _, _, _, _, _, _]) ?_
  refine OD.callP wt_ rfl rfl rfl call67 (hbare) ⟨ot, ot, trivial⟩ ?_
  refine os_ un_ ?_
  refine os_ pkT_ ?_
  refine on_ [(5, _), (100, _)] [⟨b3, 32, 12, [_, _, _, _, _, _, _, _, _, _, _, _]⟩, ⟨b1, 32, 12, [_, _, _, _, _, _, _, _, _, _, _, _]⟩] ?_
  refine CD.cond ot (fun hc9 => ?_) (fun hc9 => ?_)
  ·have hc9' := hc9
   (try simp only [V.cnd, ne_eq] at hc9')
   have hres : checkS s = 6 := by unfold checkS; rw [if_neg hnn, if_pos ⟨by rw [← heq]; simpa using hg95, by rw [← hH]; simpa using hc9⟩]
   refine CD.region ?_
   refine om_ ?_
   refine nm_ [5] ?_
   refine sr_ ?_
   refine om_ ?_
   refine om_ ?_
   refine nm_ [2] ?_
   refine CD.ret ?_
   refine r1_ ?_
   exact ⟨by first | rw [hres] | rw [hres]; rfl, rfl⟩
  have hc9' := hc9
  (try simp only [V.cnd, ne_eq] at hc9')
  have hres : checkS s = e := by unfold checkS; rw [if_neg hnn, if_neg (by rw [← heq, ← hH]; exact (fun h => by obtain ⟨h1, h2⟩ := h; simp_all)), heq]
  refine CD.skip ?_
  refine sr_ ?_
  refine om_ ?_
  refine om_ ?_
  refine nm_ [2] ?_
  refine CD.ret ?_
  refine r1_ ?_
  exact ⟨by first | rw [hres] | rw [hres]; rfl, rfl⟩
 have hg95' := hg95; (try simp only [V.cnd, ne_eq] at hg95')
 refine sk_ ?_
 refine sk_ ?_
 refine sk_ ?_
 refine sk_ ?_
 refine os_ pkF_ ?_
 refine nm_ [5, 100] ?_
 refine CD.condF ot (by first | rfl | assumption) ?_
 have hres : checkS s = e := by unfold checkS; rw [if_neg hnn, if_neg (by rw [← heq, ← hH]; exact (fun h => by obtain ⟨h1, h2⟩ := h; simp_all)), heq]
 refine CD.skip ?_
 refine sr_ ?_
 refine om_ ?_
 refine om_ ?_
 refine nm_ [2] ?_
 refine CD.ret ?_
 refine r1_ ?_
 exact ⟨by first | rw [hres] | rw [hres]; rfl, rfl⟩

end Go.Proofs.YtjgekbmahhhokaaDoor.Pa

namespace Go.Proofs.YtjgekbmahhhokaaDoor.Pa
open Go.Proofs.Tryd
open Go.RowKit V Pk Go.Proofs.YtjgekbmahhhokaaDoor.Vl Go.Proofs.YtjgekbmahhhokaaDoor.Nm
variable {G : List (Nat × List Value)}
theorem fold_flat : ∀ (l : List OpL) (H : List (List Tk)), (l.foldl stepO H).flatten.length ≤ H.flatten.length + 5 * l.length
 | [], H => by simp
 | o :: r, H => by
  have h1 := fold_flat r (stepO H o)
  have h2 := step_flat (h := H) (o := o)
  rw [List.foldl_cons, List.length_cons]; omega
theorem showO_len (l : List OpL) : (showO l).length ≤ 5 * l.length := by
 have h := fold_flat l []
 have h2 := (getD_flat (h := l.foldl stepO []) (n := 0)).1
 have h3 := flat_take_drop (l.foldl stepO []) 0
 simp only [List.take_zero, List.flatten_nil, List.length_nil] at h h3
 unfold showO; omega
theorem showW_len (l : List OpL) : (showW l).length ≤ 5 * l.length + 1 := by
 have h := showO_len l
 unfold showW; split
 ·simp
 rw [List.length_append, List.length_map]; simp only [List.length_cons, List.length_nil]; omega
def preN (ns : List ByteArray) : Nat → List Tk
 | 0 => []
 | i + 1 => preN ns i ++ (if i > 0 then [markT ⟨#[44]⟩] else []) ++ [wordT (ns.getD i ⟨#[]⟩)]
theorem preN_len (ns : List ByteArray) : ∀ i, (preN ns i).length ≤ 2 * i
 | 0 => Nat.le_refl _
 | i + 1 => by
  have ih := preN_len ns i
  have h3 : (if i > 0 then [markT ⟨#[44]⟩] else []).length ≤ 1 := by split <;> simp
  unfold preN
  rw [List.length_append, List.length_append]; simp only [List.length_cons, List.length_nil]; omega
theorem preN_more {ns : List ByteArray} {i : Nat} (hi : i < ns.length) (h : 0 < i) (X : List Tk) : ((X ++ preN ns i) ++ [markT ⟨#[44]⟩]) ++ [wordT ns[i]] = X ++ preN ns (i + 1) := by
 rw [preN, if_pos h, getD_at hi]; simp only [List.append_assoc]
theorem preN_first {ns : List ByteArray} {i : Nat} (hi : i < ns.length) (h : ¬ 0 < i) (X : List Tk) : (X ++ preN ns i) ++ [wordT ns[i]] = X ++ preN ns (i + 1) := by
 rw [preN, if_neg h, getD_at hi]; simp only [List.append_assoc, List.append_nil]
def headT (s : StL) : List Tk := if s.count = true then [wordT ⟨#[67, 79, 85, 78, 84]⟩, markT ⟨#[40]⟩, markT ⟨#[42]⟩, markT ⟨#[41]⟩] else if s.names.length = 0 then [markT ⟨#[42]⟩] else preN s.names s.names.length
def ordT (s : StL) : List Tk := if eqS s.order ⟨#[]⟩ = true then [] else [⟨#[79, 82, 68, 69, 82]⟩, ⟨#[66, 89]⟩, s.order].map wordT ++ (if s.down = true then [wordT ⟨#[68, 69, 83, 67]⟩] else [])
def limT (s : StL) : List Tk := if 0 ≤ s.limit then [wordT ⟨#[76, 73, 77, 73, 84]⟩, ⟨2, ⟨#[]⟩, s.limit⟩] else []
def showP (s : StL) : List Tk := ((([⟨#[83, 69, 76, 69, 67, 84]⟩].map wordT ++ headT s) ++ [⟨#[70, 82, 79, 77]⟩, s.table].map wordT ++ showW s.wher) ++ ordT s) ++ limT s

theorem info24_Pe5 : (Tryd.prog.info? 24).map (fun i => (i.zero, i.size, i.bytes)) = some (some (.agg #[.int .i64 0, .string ⟨#[]⟩, .int .i64 0]), 3, 32) := by kernel_rfl

theorem places24_Pe5 : ∀ w, ((#[{ name := "Kind", type := 3, offset := 0, embedded := false, tag := "", pkgPath := "", byteOffset := 0 }, { name := "Text", type := 9, offset := 1, embedded := false, tag := "", pkgPath := "", byteOffset := 8 }, { name := "Int", type := 3, offset := 2, embedded := false, tag := "", pkgPath := "", byteOffset := 24 }] : Array Field).mapM fun f => do pure (f.offset, ← sizeOf f.type) : Sem (Array (Nat × Nat))).run Tryd.prog w = .ok #[(0, 1), (1, 1), (2, 1)] w := fun w => by simp [sizeOf3, sizeOf9]

theorem showPick_vp (s : StL) (hf : FinS s) (hwh : s.wher.length = 0 ∨ exprL 0 s.wher = 0) : VP Tryd.prog G 56 [.agg (cSt s)] (.list 3 ((showP s).flatMap cT) (showP s).length) := by
 refine VC.body func56 rfl ntmps56 le_ fun X0 w0 S00 => ?_
 have hmx : maxLen = 9223372036854775807 := rfl
 have h6 := hf.ok.2.2.1
 have h40 := hf.ok.2.2.2.1
 have hwl := showW_len s.wher
 have hol := showO_len s.wher
 unfold cSt
 refine sr_ ?_
 refine OD.box (ds := [_, _, _, _, _, _, _, _, _, _, _, _]) wp_ rfl rfl ot rfl rfl (fun b1 => ?_)
 refine om_ ?_
 refine on_ [(1, _)] [⟨b1, 32, 12, [_, _, _, _, _, _, _, _, _, _, _, _]⟩] ?_
 refine sr_ ?_
 refine ob_ (numD 0 [_]) [.string ⟨#[]⟩] [_] zeroValue9 runUnderlying29 sizeOf9 (fun b6 => ?_)
 refine OD.perm (perm_q11 (S1 := [⟨b6, 9, 1 * 1, List.flatMap cS ([⟨#[83, 69, 76, 69, 67, 84]⟩])⟩]) (A := [_])) ?_
 refine OD.giveL (t := 6) (Sq := [⟨b6, 9, 1 * 1, List.flatMap cS ([⟨#[83, 69, 76, 69, 67, 84]⟩])⟩]) lk (ownL_row (g := cS) (sz := 1) (e := 9) (ls := [⟨#[83, 69, 76, 69, 67, 84]⟩]) (Nat.le_refl _) (show 1 ≤ maxLen by decide)) (fm_len cS_len _) (perm_r11 (A := [_])) ?_
 refine OD.call wp_ rfl rfl rfl call53 (all_vc [⟨#[83, 69, 76, 69, 67, 84]⟩] (by show 1 ≤ 10; decide)) ⟨ot, trivial⟩ (perm_none _) ?_; rintro _ S7 ⟨ad7, cp7, rfl, ho7⟩
 refine OD.perm (perm_q11 (A := [_])) ?_
 refine om_ ?_
 refine OD.wk (Wk.as_ (n := 84) (l' := [(1, _), (3, _)]) (S' := (⟨b1, 32, 12, [_, _, _, _, _, _, _, _, _, _, _, _]⟩ :: S7)) rfl rfl sl_) ?_
 refine OD.nil ?_
 refine CD.cut (fun y__ => ∃ (Q : List Tk), ∃ (ad : Option Addr), ∃ (cp : Nat), ∃ (Sx : List Blk), (Q = [⟨#[83, 69, 76, 69, 67, 84]⟩].map wordT ++ headT s) ∧ (OwnL 24 3 (Q.flatMap cT) Q.length ad cp Sx) ∧ (Q.length ≤ 20) ∧ y__ = (⟨84, [(1, .v (.pointer (some ⟨b1, 0, none⟩))), (3, .v (.slice ad Q.length cp))], (⟨b1, 32, 12, [.v (.int .i64 s.kind), .v (.string s.table), .list 2 (s.cols.flatMap cC) s.cols.length, .list 3 (s.row.flatMap cV) s.row.length, .list 1 (s.names.flatMap cS) s.names.length, .v (.bool s.count), .list 5 (s.wher.flatMap cO) s.wher.length, .v (.string s.order), .v (.bool s.down), .v (.int .i64 s.limit), .v (.string s.set), .list 5 (s.to.flatMap cO) s.to.length]⟩ :: Sx)⟩ : St)) ?_ ?_
 ·skip
  refine CD.block ?_
  refine sr_ ?_
  refine os_ (fa_ 5) ?_
  refine os_ (lb_ 0) ?_
  refine om_ ?_
  refine nm_ [1, 3, 28] ?_
  refine CD.cond ot (fun hc0 => ?_) (fun hc0 => ?_)
  ·have hc0' := hc0
   (try simp only [V.cnd, ne_eq] at hc0')
   refine CD.region ?_
   refine om_ ?_
   refine oc_ call79 (word_vp ⟨#[67, 79, 85, 78, 84]⟩) ?_
   refine oc_ call58 (mark_vp ⟨#[40]⟩) ?_
   refine oc_ call58 (mark_vp ⟨#[42]⟩) ?_
   refine oc_ call58 (mark_vp ⟨#[41]⟩) ?_
   refine ob_ (numD 0 [_, _, _, _]) [.int .i64 0, .string ⟨#[]⟩, .int .i64 0, .int .i64 0, .string ⟨#[]⟩, .int .i64 0, .int .i64 0, .string ⟨#[]⟩, .int .i64 0, .int .i64 0, .string ⟨#[]⟩, .int .i64 0] [_, _, _, _, _, _, _, _, _, _, _, _] zeroValue24 runUnderlying26 sizeOf24 (fun b36 => ?_)
   refine og_ 0 36 3 4 ?_
   refine OD.appendG (ls := ([⟨#[83, 69, 76, 69, 67, 84]⟩].map wordT)) (new := [wordT ⟨#[67, 79, 85, 78, 84]⟩, markT ⟨#[40]⟩, markT ⟨#[42]⟩, markT ⟨#[41]⟩]) (Sq := S7) cT_len cT_one wp_ rfl rfl underlying26 info24_Pe5 rfl (by decide) ot ho7 (perm_r11 (A := [_])) ot (by simp) (by simp only [maxLen, List.length_append, List.length_map, List.length_cons, List.length_nil]; omega) (by simp only [List.length_append, List.length_map, List.length_cons, List.length_nil]; omega) (fun b37 cp37 h137 h237 => ?_)
   refine OD.perm (perm_q11 (S1 := [⟨b37, 24, cp37 * 3, List.flatMap cT (([⟨#[83, 69, 76, 69, 67, 84]⟩].map wordT) ++ [wordT ⟨#[67, 79, 85, 78, 84]⟩, markT ⟨#[40]⟩, markT ⟨#[42]⟩, markT ⟨#[41]⟩])⟩]) (A := [_])) ?_
   refine om_ ?_
   refine OD.wk (Wk.as_ (n := 84) (l' := [(1, _), (3, _)]) (S' := (⟨b1, 32, 12, [_, _, _, _, _, _, _, _, _, _, _, _]⟩ :: [⟨b37, 24, cp37 * 3, List.flatMap cT (([⟨#[83, 69, 76, 69, 67, 84]⟩].map wordT) ++ [wordT ⟨#[67, 79, 85, 78, 84]⟩, markT ⟨#[40]⟩, markT ⟨#[42]⟩, markT ⟨#[41]⟩])⟩])) rfl rfl sl_) ?_
   refine OD.nil ?_
   refine ⟨_, ?_, (([⟨#[83, 69, 76, 69, 67, 84]⟩].map wordT) ++ [wordT ⟨#[67, 79, 85, 78, 84]⟩, markT ⟨#[40]⟩, markT ⟨#[42]⟩, markT ⟨#[41]⟩]), (some ⟨b37, 0, none⟩), cp37, [⟨b37, 24, cp37 * 3, List.flatMap cT (([⟨#[83, 69, 76, 69, 67, 84]⟩].map wordT) ++ [wordT ⟨#[67, 79, 85, 78, 84]⟩, markT ⟨#[40]⟩, markT ⟨#[42]⟩, markT ⟨#[41]⟩])⟩], (by unfold headT; rw [if_pos hc0']), (ownL_row h137 h237), (by have := preN_len s.names s.names.length; (try rw [hie]); simp only [List.length_append, List.length_map, List.length_cons, List.length_nil]; omega), rfl⟩
   exact Wk.asS (n := 84) rfl (List.Sublist.refl _) (by repeat (first | exact trivial | refine ⟨lq_, ?_⟩))
  have hc0' := hc0
  (try simp only [V.cnd, ne_eq] at hc0')
  refine sr_ ?_
  refine os_ (fa_ 4) ?_
  refine os_ (lb_ 0) ?_
  refine os_ ln_ ?_
  refine os_ bn_ ?_
  refine om_ ?_
  refine nm_ [1, 3, 38] ?_
  refine CD.cond ot (fun hc1 => ?_) (fun hc1 => ?_)
  ·have hc1' := hc1
   (try simp only [V.cnd, ne_eq] at hc1')
   refine CD.region ?_
   refine om_ ?_
   refine oc_ call58 (mark_vp ⟨#[42]⟩) ?_
   refine ob_ (numD 0 [_]) [.int .i64 0, .string ⟨#[]⟩, .int .i64 0] [_, _, _] zeroValue24 runUnderlying26 sizeOf24 (fun b45 => ?_)
   refine og_ 0 45 3 1 ?_
   refine OD.appendG (ls := ([⟨#[83, 69, 76, 69, 67, 84]⟩].map wordT)) (new := [markT ⟨#[42]⟩]) (Sq := S7) cT_len cT_one wp_ rfl rfl underlying26 info24_Pe5 rfl (by decide) ot ho7 (perm_r11 (A := [_])) ot (by simp) (by simp only [maxLen, List.length_append, List.length_map, List.length_cons, List.length_nil]; omega) (by simp only [List.length_append, List.length_map, List.length_cons, List.length_nil]; omega) (fun b46 cp46 h146 h246 => ?_)
   refine OD.perm (perm_q11 (S1 := [⟨b46, 24, cp46 * 3, List.flatMap cT (([⟨#[83, 69, 76, 69, 67, 84]⟩].map wordT) ++ [markT ⟨#[42]⟩])⟩]) (A := [_])) ?_
   refine om_ ?_
   refine OD.wk (Wk.as_ (n := 84) (l' := [(1, _), (3, _)]) (S' := (⟨b1, 32, 12, [_, _, _, _, _, _, _, _, _, _, _, _]⟩ :: [⟨b46, 24, cp46 * 3, List.flatMap cT (([⟨#[83, 69, 76, 69, 67, 84]⟩].map wordT) ++ [markT ⟨#[42]⟩])⟩])) rfl rfl sl_) ?_
   refine OD.nil ?_
   refine ⟨_, ?_, (([⟨#[83, 69, 76, 69, 67, 84]⟩].map wordT) ++ [markT ⟨#[42]⟩]), (some ⟨b46, 0, none⟩), cp46, [⟨b46, 24, cp46 * 3, List.flatMap cT (([⟨#[83, 69, 76, 69, 67, 84]⟩].map wordT) ++ [markT ⟨#[42]⟩])⟩], (by unfold headT; rw [if_neg (by simpa using hc0), if_pos (by omega)]), (ownL_row h146 h246), (by have := preN_len s.names s.names.length; (try rw [hie]); simp only [List.length_append, List.length_map, List.length_cons, List.length_nil]; omega), rfl⟩
   exact Wk.asS (n := 84) rfl (List.Sublist.refl _) (by repeat (first | exact trivial | refine ⟨lq_, ?_⟩))
  have hc1' := hc1
  (try simp only [V.cnd, ne_eq] at hc1')
  refine sr_ ?_
  refine os_ (fa_ 4) ?_
  refine os_ (lb_ 0) ?_
  refine os_ ln_ ?_
  refine om_ ?_
  refine nm_ [1, 3, 9, 10, 11] ?_
  refine CD.block ?_
  refine lp_ (fun (gh__ : Nat × Option Addr × Nat × List Blk) y__ => match gh__ with | (i, ado, cpo, So) => (i ≤ s.names.length) ∧ (OwnL 24 3 ((([⟨#[83, 69, 76, 69, 67, 84]⟩].map wordT ++ preN s.names i)).flatMap cT) (([⟨#[83, 69, 76, 69, 67, 84]⟩].map wordT ++ preN s.names i)).length ado cpo So) ∧ y__ = (⟨84, [(1, .v (.pointer (some ⟨b1, 0, none⟩))), (3, .v (.slice ado (([⟨#[83, 69, 76, 69, 67, 84]⟩].map wordT ++ preN s.names i)).length cpo)), (9, .list 1 (s.names.flatMap cS) s.names.length), (10, .v (.int .i64 (s.names.length : Nat))), (11, .v (.int .i64 (i : Nat)))], ((⟨b1, 32, 12, [.v (.int .i64 s.kind), .v (.string s.table), .list 2 (s.cols.flatMap cC) s.cols.length, .list 3 (s.row.flatMap cV) s.row.length, .list 1 (s.names.flatMap cS) s.names.length, .v (.bool s.count), .list 5 (s.wher.flatMap cO) s.wher.length, .v (.string s.order), .v (.bool s.down), .v (.int .i64 s.limit), .v (.string s.set), .list 5 (s.to.flatMap cO) s.to.length]⟩ : Blk) :: So)⟩ : St)) (fun (gh__ : Nat × Option Addr × Nat × List Blk) => match gh__ with | (i, ado, cpo, So) => s.names.length - i) (0, ad7, cp7, S7) ⟨(Nat.zero_le _), (OwnL.cast ho7 (by simp [preN])), rfl⟩ (Wk.asS rfl su_ (by repeat (first | exact trivial | refine ⟨(by (repeat (first | exact look_hit | (apply look_at; focus (first | rfl | (simp; done) | (congr 2; omega) | (apply row_eq; first | exact preN_more hlt (by omega) _ | exact preN_first hlt (by omega) _) | (apply row_eq; simp [preN]) | (apply row_eq; simp; done))) | (apply look_miss; focus rfl))); done), ?_⟩))) ?_
  rintro ⟨i, ado, cpo, So⟩ _ ⟨hi, hoo, rfl⟩
  refine sr_ ?_
  refine os_ bn_ ?_
  refine nm_ [1, 3, 9, 10, 11, 12] ?_
  refine CD.seq ?_
  refine CD.cond ot (fun hc2 => ?_) (fun hc2 => ?_)
  ·have hc2' := hc2
   (try simp only [V.cnd, ne_eq] at hc2')
   have hlt : i < s.names.length := by simp at hc2; omega
   have hpl := preN_len s.names i
   refine CD.skip ?_
   refine CD.seq ?_
   refine CD.block ?_
   refine sr_ ?_
   refine om_ ?_
   refine os_ (ix_ 1 (h := by first | exact .l (j := i) rfl hlt | exact .r (j := i) rfl hlt)) ?_
   refine os_ ld_ ?_
   refine om_ ?_
   refine om_ ?_
   refine nm_ [1, 3, 4, 5, 9, 10, 11] ?_
   refine CD.seq ?_
   refine sr_ ?_
   refine om_ ?_
   refine os_ bn_ ?_
   refine nm_ [1, 3, 5, 9, 10, 11, 17] ?_
   refine CD.cond ot (fun hc3 => ?_) (fun hc3 => ?_)
   ·have hc3' := hc3
    (try simp only [V.cnd, ne_eq] at hc3')
    refine CD.region ?_
    refine om_ ?_
    refine oc_ call58 (mark_vp ⟨#[44]⟩) ?_
    refine ob_ (numD 0 [_]) [.int .i64 0, .string ⟨#[]⟩, .int .i64 0] [_, _, _] zeroValue24 runUnderlying26 sizeOf24 (fun b20 => ?_)
    refine og_ 0 20 3 1 ?_
    refine OD.appendG (ls := (([⟨#[83, 69, 76, 69, 67, 84]⟩].map wordT ++ preN s.names i))) (new := [markT ⟨#[44]⟩]) (Sq := So) cT_len cT_one wp_ rfl rfl underlying26 info24_Pe5 rfl (by decide) ot hoo (perm_r11 (A := [_])) ot (by simp) (by simp only [maxLen, List.length_append, List.length_map, List.length_cons, List.length_nil]; omega) (by simp only [List.length_append, List.length_map, List.length_cons, List.length_nil]; omega) (fun b21 cp21 h121 h221 => ?_)
    refine OD.perm (perm_q11 (S1 := [⟨b21, 24, cp21 * 3, List.flatMap cT ((([⟨#[83, 69, 76, 69, 67, 84]⟩].map wordT ++ preN s.names i)) ++ [markT ⟨#[44]⟩])⟩]) (A := [_])) ?_
    refine om_ ?_
    refine OD.wk (Wk.as_ (n := 84) (l' := [(1, _), (3, _), (5, _), (9, _), (10, _), (11, _)]) (S' := (⟨b1, 32, 12, [_, _, _, _, _, _, _, _, _, _, _, _]⟩ :: [⟨b21, 24, cp21 * 3, List.flatMap cT ((([⟨#[83, 69, 76, 69, 67, 84]⟩].map wordT ++ preN s.names i)) ++ [markT ⟨#[44]⟩])⟩])) rfl rfl sl_) ?_
    refine OD.nil ?_
    refine CD.region ?_
    refine om_ ?_
    refine om_ ?_
    refine oc_ call79 (word_vp s.names[i]) ?_
    refine ob_ (numD 0 [_]) [.int .i64 0, .string ⟨#[]⟩, .int .i64 0] [_, _, _] zeroValue24 runUnderlying26 sizeOf24 (fun b25 => ?_)
    refine og_ 0 25 3 1 ?_
    refine OD.appendG (ls := ((([⟨#[83, 69, 76, 69, 67, 84]⟩].map wordT ++ preN s.names i)) ++ [markT ⟨#[44]⟩])) (new := [wordT s.names[i]]) (Sq := [⟨b21, 24, cp21 * 3, List.flatMap cT ((([⟨#[83, 69, 76, 69, 67, 84]⟩].map wordT ++ preN s.names i)) ++ [markT ⟨#[44]⟩])⟩]) cT_len cT_one wp_ rfl rfl underlying26 info24_Pe5 rfl (by decide) ot (ownL_row h121 h221) (perm_r11 (A := [_])) ot (by simp) (by simp only [maxLen, List.length_append, List.length_map, List.length_cons, List.length_nil]; omega) (by simp only [List.length_append, List.length_map, List.length_cons, List.length_nil]; omega) (fun b26 cp26 h126 h226 => ?_)
    refine OD.perm (perm_q11 (S1 := [⟨b26, 24, cp26 * 3, List.flatMap cT (((([⟨#[83, 69, 76, 69, 67, 84]⟩].map wordT ++ preN s.names i)) ++ [markT ⟨#[44]⟩]) ++ [wordT s.names[i]])⟩]) (A := [_])) ?_
    refine om_ ?_
    refine OD.wk (Wk.as_ (n := 84) (l' := [(1, _), (3, _), (9, _), (10, _), (11, _)]) (S' := (⟨b1, 32, 12, [_, _, _, _, _, _, _, _, _, _, _, _]⟩ :: [⟨b26, 24, cp26 * 3, List.flatMap cT (((([⟨#[83, 69, 76, 69, 67, 84]⟩].map wordT ++ preN s.names i)) ++ [markT ⟨#[44]⟩]) ++ [wordT s.names[i]])⟩])) rfl rfl sl_) ?_
    refine OD.nil ?_
    refine CD.region ?_
    refine os_ bn_ ?_
    refine om_ ?_
    refine nm_ [1, 3, 9, 10, 11] ?_
    refine ⟨((i + 1), (some ⟨b26, 0, none⟩), cp26, [⟨b26, 24, cp26 * 3, List.flatMap cT (((([⟨#[83, 69, 76, 69, 67, 84]⟩].map wordT ++ preN s.names i)) ++ [markT ⟨#[44]⟩]) ++ [wordT s.names[i]])⟩]), _, ?_, ?_, (by omega), (OwnL.cast (ownL_row h126 h226) (by first | exact preN_more hlt (by omega) _ | exact preN_first hlt (by omega) _)), rfl⟩
    ·first | omega | (simp only []; omega)
    exact Wk.asS (n := 84) rfl su_ (by repeat (first | exact trivial | refine ⟨(by (repeat (first | exact look_hit | (apply look_at; focus (first | rfl | (simp; done) | (congr 2; omega) | (apply row_eq; first | exact preN_more hlt (by omega) _ | exact preN_first hlt (by omega) _) | (apply row_eq; simp [preN]) | (apply row_eq; simp; done))) | (apply look_miss; focus rfl))); done), ?_⟩))
   have hc3' := hc3
   (try simp only [V.cnd, ne_eq] at hc3')
   refine CD.skip ?_
   refine CD.region ?_
   refine om_ ?_
   refine om_ ?_
   refine oc_ call79 (word_vp s.names[i]) ?_
   refine ob_ (numD 0 [_]) [.int .i64 0, .string ⟨#[]⟩, .int .i64 0] [_, _, _] zeroValue24 runUnderlying26 sizeOf24 (fun b25 => ?_)
   refine og_ 0 25 3 1 ?_
   refine OD.appendG (ls := (([⟨#[83, 69, 76, 69, 67, 84]⟩].map wordT ++ preN s.names i))) (new := [wordT s.names[i]]) (Sq := So) cT_len cT_one wp_ rfl rfl underlying26 info24_Pe5 rfl (by decide) ot hoo (perm_r11 (A := [_])) ot (by simp) (by simp only [maxLen, List.length_append, List.length_map, List.length_cons, List.length_nil]; omega) (by simp only [List.length_append, List.length_map, List.length_cons, List.length_nil]; omega) (fun b26 cp26 h126 h226 => ?_)
   refine OD.perm (perm_q11 (S1 := [⟨b26, 24, cp26 * 3, List.flatMap cT ((([⟨#[83, 69, 76, 69, 67, 84]⟩].map wordT ++ preN s.names i)) ++ [wordT s.names[i]])⟩]) (A := [_])) ?_
   refine om_ ?_
   refine OD.wk (Wk.as_ (n := 84) (l' := [(1, _), (3, _), (9, _), (10, _), (11, _)]) (S' := (⟨b1, 32, 12, [_, _, _, _, _, _, _, _, _, _, _, _]⟩ :: [⟨b26, 24, cp26 * 3, List.flatMap cT ((([⟨#[83, 69, 76, 69, 67, 84]⟩].map wordT ++ preN s.names i)) ++ [wordT s.names[i]])⟩])) rfl rfl sl_) ?_
   refine OD.nil ?_
   refine CD.region ?_
   refine os_ bn_ ?_
   refine om_ ?_
   refine nm_ [1, 3, 9, 10, 11] ?_
   refine ⟨((i + 1), (some ⟨b26, 0, none⟩), cp26, [⟨b26, 24, cp26 * 3, List.flatMap cT ((([⟨#[83, 69, 76, 69, 67, 84]⟩].map wordT ++ preN s.names i)) ++ [wordT s.names[i]])⟩]), _, ?_, ?_, (by omega), (OwnL.cast (ownL_row h126 h226) (by first | exact preN_more hlt (by omega) _ | exact preN_first hlt (by omega) _)), rfl⟩
   ·first | omega | (simp only []; omega)
   exact Wk.asS (n := 84) rfl su_ (by repeat (first | exact trivial | refine ⟨(by (repeat (first | exact look_hit | (apply look_at; focus (first | rfl | (simp; done) | (congr 2; omega) | (apply row_eq; first | exact preN_more hlt (by omega) _ | exact preN_first hlt (by omega) _) | (apply row_eq; simp [preN]) | (apply row_eq; simp; done))) | (apply look_miss; focus rfl))); done), ?_⟩))
  have hc2' := hc2
  (try simp only [V.cnd, ne_eq] at hc2')
  have hie : i = s.names.length := by simp at hc2; omega
  refine CD.exit ?_
  refine ⟨_, ?_, (([⟨#[83, 69, 76, 69, 67, 84]⟩].map wordT ++ preN s.names i)), ado, cpo, So, (by unfold headT; rw [if_neg (by simpa using hc0), if_neg (by omega), hie]), hoo, (by have := preN_len s.names s.names.length; (try rw [hie]); simp only [List.length_append, List.length_map, List.length_cons, List.length_nil]; omega), rfl⟩
  exact Wk.asS (n := 84) rfl (List.Sublist.refl _) (by repeat (first | exact trivial | refine ⟨lq_, ?_⟩))
 rintro _ ⟨Q, ad, cp, Sx, hQ, hox, hQl, rfl⟩
 refine CD.seq ?_
 refine CD.region ?_
 refine om_ ?_
 refine os_ (fa_ 1) ?_
 refine os_ (lb_ 0) ?_
 refine ob_ (numD 0 [_, _]) [.string ⟨#[]⟩, .string ⟨#[]⟩] [_, _] zeroValue9 runUnderlying29 sizeOf9 (fun b50 => ?_)
 refine OD.perm (perm_q22 (S2 := [⟨b50, 9, 2 * 1, List.flatMap cS ([⟨#[70, 82, 79, 77]⟩, s.table])⟩]) (A := [_])) ?_
 refine OD.giveL (t := 50) (Sq := [⟨b50, 9, 2 * 1, List.flatMap cS ([⟨#[70, 82, 79, 77]⟩, s.table])⟩]) lk (ownL_row (g := cS) (sz := 1) (e := 9) (ls := [⟨#[70, 82, 79, 77]⟩, s.table]) (Nat.le_refl _) (show 2 ≤ maxLen by decide)) (fm_len cS_len _) (perm_r22 (A := [_])) ?_
 refine oc_ call53 (all_vp [⟨#[70, 82, 79, 77]⟩, s.table] (by show 2 ≤ 10; decide)) ?_
 refine OD.appendG (ls := Q) (new := ([⟨#[70, 82, 79, 77]⟩, s.table].map wordT)) (Sq := Sx) cT_len cT_one wp_ rfl rfl underlying26 info24_Pe5 rfl (by decide) ot hox (perm_r11 (A := [_])) ot (by simp) (by simp only [maxLen, List.length_append, List.length_map, List.length_cons, List.length_nil]; omega) (by simp only [List.length_append, List.length_map, List.length_cons, List.length_nil]; omega) (fun b52 cp52 h152 h252 => ?_)
 refine OD.perm (perm_q11 (S1 := [⟨b52, 24, cp52 * 3, List.flatMap cT (Q ++ ([⟨#[70, 82, 79, 77]⟩, s.table].map wordT))⟩]) (A := [_])) ?_
 refine om_ ?_
 refine OD.wk (Wk.as_ (n := 84) (l' := [(1, _), (3, _)]) (S' := (⟨b1, 32, 12, [_, _, _, _, _, _, _, _, _, _, _, _]⟩ :: [⟨b52, 24, cp52 * 3, List.flatMap cT (Q ++ ([⟨#[70, 82, 79, 77]⟩, s.table].map wordT))⟩])) rfl rfl sl_) ?_
 refine OD.nil ?_
 refine sr_ ?_
 refine om_ ?_
 refine os_ (fa_ 6) ?_
 refine os_ (lb_ 0) ?_
 refine oc_ call60 (showWhere_vp s.wher h40 hwh (fun o h => (hf.w o h).2) (by omega)) ?_
 refine OD.appendAny (ls := (Q ++ ([⟨#[70, 82, 79, 77]⟩, s.table].map wordT))) (new := (showW s.wher)) (Sq := [⟨b52, 24, cp52 * 3, List.flatMap cT (Q ++ ([⟨#[70, 82, 79, 77]⟩, s.table].map wordT))⟩]) cT_len cT_one wp_ rfl rfl underlying26 info24_Pe5 rfl (by decide) runUnderlying26 sizeOf24 ot (ownL_row h152 h252) (perm_r11 (A := [_])) ot (by simp only [maxLen, List.length_append, List.length_map, List.length_cons, List.length_nil]; omega) (by simp only [List.length_append, List.length_map, List.length_cons, List.length_nil]; omega) (fun ad57 cp57 S57 ho57 => ?_)
 refine OD.perm (perm_q11 (A := [_])) ?_
 refine om_ ?_
 refine OD.wk (Wk.as_ (n := 84) (l' := [(1, _), (3, _)]) (S' := (⟨b1, 32, 12, [_, _, _, _, _, _, _, _, _, _, _, _]⟩ :: S57)) rfl rfl sl_) ?_
 refine OD.nil ?_
 refine CD.cut (fun y__ => ∃ (Q : List Tk), ∃ (ad : Option Addr), ∃ (cp : Nat), ∃ (Sx : List Blk), (Q = (([⟨#[83, 69, 76, 69, 67, 84]⟩].map wordT ++ headT s) ++ [⟨#[70, 82, 79, 77]⟩, s.table].map wordT ++ showW s.wher) ++ ordT s) ∧ (OwnL 24 3 (Q.flatMap cT) Q.length ad cp Sx) ∧ (Q.length ≤ 500) ∧ y__ = (⟨84, [(1, .v (.pointer (some ⟨b1, 0, none⟩))), (3, .v (.slice ad Q.length cp))], (⟨b1, 32, 12, [.v (.int .i64 s.kind), .v (.string s.table), .list 2 (s.cols.flatMap cC) s.cols.length, .list 3 (s.row.flatMap cV) s.row.length, .list 1 (s.names.flatMap cS) s.names.length, .v (.bool s.count), .list 5 (s.wher.flatMap cO) s.wher.length, .v (.string s.order), .v (.bool s.down), .v (.int .i64 s.limit), .v (.string s.set), .list 5 (s.to.flatMap cO) s.to.length]⟩ :: Sx)⟩ : St)) ?_ ?_
 ·skip
  refine sr_ ?_
  refine os_ (fa_ 7) ?_
  refine os_ (lb_ 0) ?_
  refine os_ bn_ ?_
  refine nm_ [1, 3, 60] ?_
  refine CD.cond ot (fun hc4 => ?_) (fun hc4 => ?_)
  ·have hc4' := hc4
   (try simp only [V.cnd, ne_eq] at hc4')
   refine sr_ ?_
   refine om_ ?_
   refine os_ (fa_ 7) ?_
   refine os_ (lb_ 0) ?_
   refine ob_ (numD 0 [_, _, _]) [.string ⟨#[]⟩, .string ⟨#[]⟩, .string ⟨#[]⟩] [_, _, _] zeroValue9 runUnderlying29 sizeOf9 (fun b64 => ?_)
   refine OD.perm (perm_q22 (S2 := [⟨b64, 9, 3 * 1, List.flatMap cS ([⟨#[79, 82, 68, 69, 82]⟩, ⟨#[66, 89]⟩, s.order])⟩]) (A := [_])) ?_
   refine OD.giveL (t := 64) (Sq := [⟨b64, 9, 3 * 1, List.flatMap cS ([⟨#[79, 82, 68, 69, 82]⟩, ⟨#[66, 89]⟩, s.order])⟩]) lk (ownL_row (g := cS) (sz := 1) (e := 9) (ls := [⟨#[79, 82, 68, 69, 82]⟩, ⟨#[66, 89]⟩, s.order]) (Nat.le_refl _) (show 3 ≤ maxLen by decide)) (fm_len cS_len _) (perm_r22 (A := [_])) ?_
   refine oc_ call53 (all_vp [⟨#[79, 82, 68, 69, 82]⟩, ⟨#[66, 89]⟩, s.order] (by show 3 ≤ 10; decide)) ?_
   refine OD.appendG (ls := ((Q ++ ([⟨#[70, 82, 79, 77]⟩, s.table].map wordT)) ++ (showW s.wher))) (new := ([⟨#[79, 82, 68, 69, 82]⟩, ⟨#[66, 89]⟩, s.order].map wordT)) (Sq := S57) cT_len cT_one wp_ rfl rfl underlying26 info24_Pe5 rfl (by decide) ot ho57 (perm_r11 (A := [_])) ot (by simp) (by simp only [maxLen, List.length_append, List.length_map, List.length_cons, List.length_nil]; omega) (by simp only [List.length_append, List.length_map, List.length_cons, List.length_nil]; omega) (fun b66 cp66 h166 h266 => ?_)
   refine OD.perm (perm_q11 (S1 := [⟨b66, 24, cp66 * 3, List.flatMap cT (((Q ++ ([⟨#[70, 82, 79, 77]⟩, s.table].map wordT)) ++ (showW s.wher)) ++ ([⟨#[79, 82, 68, 69, 82]⟩, ⟨#[66, 89]⟩, s.order].map wordT))⟩]) (A := [_])) ?_
   refine om_ ?_
   refine OD.wk (Wk.as_ (n := 84) (l' := [(1, _), (3, _)]) (S' := (⟨b1, 32, 12, [_, _, _, _, _, _, _, _, _, _, _, _]⟩ :: [⟨b66, 24, cp66 * 3, List.flatMap cT (((Q ++ ([⟨#[70, 82, 79, 77]⟩, s.table].map wordT)) ++ (showW s.wher)) ++ ([⟨#[79, 82, 68, 69, 82]⟩, ⟨#[66, 89]⟩, s.order].map wordT))⟩])) rfl rfl sl_) ?_
   refine OD.nil ?_
   refine sr_ ?_
   refine os_ (fa_ 8) ?_
   refine os_ (lb_ 0) ?_
   refine nm_ [1, 3, 68] ?_
   refine CD.cond ot (fun hc5 => ?_) (fun hc5 => ?_)
   ·have hc5' := hc5
    (try simp only [V.cnd, ne_eq] at hc5')
    refine CD.region ?_
    refine om_ ?_
    refine oc_ call79 (word_vp ⟨#[68, 69, 83, 67]⟩) ?_
    refine ob_ (numD 0 [_]) [.int .i64 0, .string ⟨#[]⟩, .int .i64 0] [_, _, _] zeroValue24 runUnderlying26 sizeOf24 (fun b71 => ?_)
    refine og_ 0 71 3 1 ?_
    refine OD.appendG (ls := (((Q ++ ([⟨#[70, 82, 79, 77]⟩, s.table].map wordT)) ++ (showW s.wher)) ++ ([⟨#[79, 82, 68, 69, 82]⟩, ⟨#[66, 89]⟩, s.order].map wordT))) (new := [wordT ⟨#[68, 69, 83, 67]⟩]) (Sq := [⟨b66, 24, cp66 * 3, List.flatMap cT (((Q ++ ([⟨#[70, 82, 79, 77]⟩, s.table].map wordT)) ++ (showW s.wher)) ++ ([⟨#[79, 82, 68, 69, 82]⟩, ⟨#[66, 89]⟩, s.order].map wordT))⟩]) cT_len cT_one wp_ rfl rfl underlying26 info24_Pe5 rfl (by decide) ot (ownL_row h166 h266) (perm_r11 (A := [_])) ot (by simp) (by simp only [maxLen, List.length_append, List.length_map, List.length_cons, List.length_nil]; omega) (by simp only [List.length_append, List.length_map, List.length_cons, List.length_nil]; omega) (fun b72 cp72 h172 h272 => ?_)
    refine OD.perm (perm_q11 (S1 := [⟨b72, 24, cp72 * 3, List.flatMap cT ((((Q ++ ([⟨#[70, 82, 79, 77]⟩, s.table].map wordT)) ++ (showW s.wher)) ++ ([⟨#[79, 82, 68, 69, 82]⟩, ⟨#[66, 89]⟩, s.order].map wordT)) ++ [wordT ⟨#[68, 69, 83, 67]⟩])⟩]) (A := [_])) ?_
    refine om_ ?_
    refine OD.wk (Wk.as_ (n := 84) (l' := [(1, _), (3, _)]) (S' := (⟨b1, 32, 12, [_, _, _, _, _, _, _, _, _, _, _, _]⟩ :: [⟨b72, 24, cp72 * 3, List.flatMap cT ((((Q ++ ([⟨#[70, 82, 79, 77]⟩, s.table].map wordT)) ++ (showW s.wher)) ++ ([⟨#[79, 82, 68, 69, 82]⟩, ⟨#[66, 89]⟩, s.order].map wordT)) ++ [wordT ⟨#[68, 69, 83, 67]⟩])⟩])) rfl rfl sl_) ?_
    refine OD.nil ?_
    refine ⟨_, ?_, ((((Q ++ ([⟨#[70, 82, 79, 77]⟩, s.table].map wordT)) ++ (showW s.wher)) ++ ([⟨#[79, 82, 68, 69, 82]⟩, ⟨#[66, 89]⟩, s.order].map wordT)) ++ [wordT ⟨#[68, 69, 83, 67]⟩]), (some ⟨b72, 0, none⟩), cp72, [⟨b72, 24, cp72 * 3, List.flatMap cT ((((Q ++ ([⟨#[70, 82, 79, 77]⟩, s.table].map wordT)) ++ (showW s.wher)) ++ ([⟨#[79, 82, 68, 69, 82]⟩, ⟨#[66, 89]⟩, s.order].map wordT)) ++ [wordT ⟨#[68, 69, 83, 67]⟩])⟩], (by rw [hQ]; unfold ordT; rw [if_neg (by unfold eqS; simpa using hc4), if_pos hc5']; simp only [List.append_assoc]), (ownL_row h172 h272), (by simp only [List.length_append, List.length_map, List.length_cons, List.length_nil]; omega), rfl⟩
    exact Wk.asS (n := 84) rfl (List.Sublist.refl _) (by repeat (first | exact trivial | refine ⟨lq_, ?_⟩))
   have hc5' := hc5
   (try simp only [V.cnd, ne_eq] at hc5')
   refine CD.skip ?_
   refine ⟨_, ?_, (((Q ++ ([⟨#[70, 82, 79, 77]⟩, s.table].map wordT)) ++ (showW s.wher)) ++ ([⟨#[79, 82, 68, 69, 82]⟩, ⟨#[66, 89]⟩, s.order].map wordT)), (some ⟨b66, 0, none⟩), cp66, [⟨b66, 24, cp66 * 3, List.flatMap cT (((Q ++ ([⟨#[70, 82, 79, 77]⟩, s.table].map wordT)) ++ (showW s.wher)) ++ ([⟨#[79, 82, 68, 69, 82]⟩, ⟨#[66, 89]⟩, s.order].map wordT))⟩], (by rw [hQ]; unfold ordT; rw [if_neg (by unfold eqS; simpa using hc4), if_neg (by simpa using hc5)]; simp only [List.append_assoc, List.append_nil]), (ownL_row h166 h266), (by simp only [List.length_append, List.length_map, List.length_cons, List.length_nil]; omega), rfl⟩
   exact Wk.asS (n := 84) rfl (List.Sublist.refl _) (by repeat (first | exact trivial | refine ⟨lq_, ?_⟩))
  have hc4' := hc4
  (try simp only [V.cnd, ne_eq] at hc4')
  refine CD.skip ?_
  refine ⟨_, ?_, ((Q ++ ([⟨#[70, 82, 79, 77]⟩, s.table].map wordT)) ++ (showW s.wher)), ad57, cp57, S57, (by rw [hQ]; unfold ordT; rw [if_pos (by unfold eqS; simpa using hc4)]; simp), ho57, (by simp only [List.length_append, List.length_map, List.length_cons, List.length_nil]; omega), rfl⟩
  exact Wk.asS (n := 84) rfl (List.Sublist.refl _) (by repeat (first | exact trivial | refine ⟨lq_, ?_⟩))
 rintro _ ⟨Q, ad, cp, Sx, hQ, hox, hQl, rfl⟩
 refine CD.seq ?_
 refine CD.seq ?_
 refine CD.region ?_
 refine os_ (fa_ 9) ?_
 refine os_ (lb_ 0) ?_
 refine os_ bn_ ?_
 refine nm_ [1, 3, 75] ?_
 refine CD.cond ot (fun hc6 => ?_) (fun hc6 => ?_)
 ·have hc6' := hc6
  (try simp only [V.cnd, ne_eq] at hc6')
  refine CD.draw (bks (List.take 1 _)) kr_ (fun _ h => (List.Sublist.map _ (List.take_sublist _ _)).subset h) ?_
  refine a0_ 0 rfl mv_ ?_
  refine a0_ 2 rfl (fa_ 9) ?_
  refine a0_ 3 rfl (lb_ 0) ?_
  refine a0_ 4 rfl (still_bld (pl := [(0, _), (2, _)]) (ds := [_, _, _]) rfl zeroValue24 runUnderlying24 places24_Pe5 ⟨rfl, opd_const, rfl, ot, trivial⟩ rfl rfl) ?_
  refine AD0.later rfl ?_
  refine AD.one (i := 1) kr_ ?_
  refine ac_ call79 (word_vp ⟨#[76, 73, 77, 73, 84]⟩) ?_
  refine AD.one (i := 5) kr_ ?_
  refine ab_ (numD 0 [_, _]) [.int .i64 0, .string ⟨#[]⟩, .int .i64 0, .int .i64 0, .string ⟨#[]⟩, .int .i64 0] [_, _, _, _, _, _] zeroValue24 runUnderlying26 sizeOf24 (fun b81 => ?_)
  refine ag_ 0 81 3 2 ?_
  refine AD.one (i := 6) kr_ ?_
  refine AStep.appendG (ls := Q) (new := [wordT ⟨#[76, 73, 77, 73, 84]⟩, (⟨2, ⟨#[]⟩, s.limit⟩ : Tk)]) (Sq := Sx) cT_len cT_one rfl wp_ rfl rfl underlying26 info24_Pe5 rfl (by decide) ot hox (perm_r11 (A := [_])) ot (by simp) (by simp only [maxLen, List.length_append, List.length_map, List.length_cons, List.length_nil]; omega) (by simp only [List.length_append, List.length_map, List.length_cons, List.length_nil]; omega) (fun b82 cp82 h182 h282 => ?_)
  refine AD.perm (perm_q11 (S1 := [⟨b82, 24, cp82 * 3, List.flatMap cT (Q ++ [wordT ⟨#[76, 73, 77, 73, 84]⟩, (⟨2, ⟨#[]⟩, s.limit⟩ : Tk)])⟩]) (A := [_])) ?_
  refine a1_ 7 rfl mv_ ?_
  refine AD.wk (y := ⟨84, [(3, _)], (⟨b1, 32, 12, [_, _, _, _, _, _, _, _, _, _, _, _]⟩ :: [⟨b82, 24, cp82 * 3, List.flatMap cT (Q ++ [wordT ⟨#[76, 73, 77, 73, 84]⟩, (⟨2, ⟨#[]⟩, s.limit⟩ : Tk)])⟩])⟩) (Wk.as_ rfl rfl sl_) rfl ?_
  refine AD.done kr_ ?_
  refine sr_ ?_
  refine om_ ?_
  refine om_ ?_
  refine nm_ [2] ?_
  refine CD.giveL (t := 2) (Sq := [⟨b82, 24, cp82 * 3, List.flatMap cT (Q ++ [wordT ⟨#[76, 73, 77, 73, 84]⟩, (⟨2, ⟨#[]⟩, s.limit⟩ : Tk)])⟩]) lk (ownL_row h182 h282) (fm_len cT_len _) (perm_r11 (A := [_])) ?_
  refine CD.ret ?_
  refine r1_ ?_
  refine ⟨?_, rfl⟩
  rw [hQ]; unfold showP limT; rw [if_pos (by omega)]
 have hc6' := hc6
 (try simp only [V.cnd, ne_eq] at hc6')
 refine CD.skip ?_
 refine sr_ ?_
 refine om_ ?_
 refine om_ ?_
 refine nm_ [2] ?_
 refine CD.giveL (t := 2) (Sq := Sx) lk hox (fm_len cT_len _) (perm_r11 (A := [_])) ?_
 refine CD.ret ?_
 refine r1_ ?_
 refine ⟨?_, rfl⟩
 rw [hQ]; unfold showP limT; rw [if_neg (by omega)]; simp only [List.append_nil]

end Go.Proofs.YtjgekbmahhhokaaDoor.Pa

namespace Go.Proofs.YtjgekbmahhhokaaDoor.Pa
open Go.Proofs.Tryd
open Go.RowKit V Pk Go.Proofs.YtjgekbmahhhokaaDoor.Vl Go.Proofs.YtjgekbmahhhokaaDoor.Nm
variable {G : List (Nat × List Value)}
def typeS (k : Int) : ByteArray := typesN.getD k.toNat ⟨#[]⟩
theorem types_at {k : Int} (h1 : 1 ≤ k) (h2 : k ≤ 3) : typesC[0 + k.toNat * 1]? = some (.string (typeS k)) := by
 have h : k = 1 ∨ k = 2 ∨ k = 3 := by omega
 rcases h with rfl | rfl | rfl <;> rfl
def colT (c : ColL) : List Tk := [c.n, typeS c.k].map wordT
def endN : List ByteArray := [⟨#[66, 69, 71, 73, 78]⟩, ⟨#[67, 79, 77, 77, 73, 84]⟩, ⟨#[82, 79, 76, 76, 66, 65, 67, 75]⟩]
def showS (s : StL) : List Tk :=
 if s.kind = 1 then [⟨#[67, 82, 69, 65, 84, 69]⟩, ⟨#[84, 65, 66, 76, 69]⟩, s.table].map wordT ++ listL (s.cols.map colT)
 else if s.kind = 2 then [⟨#[68, 82, 79, 80]⟩, ⟨#[84, 65, 66, 76, 69]⟩, s.table].map wordT
 else if s.kind = 3 then [⟨#[73, 78, 83, 69, 82, 84]⟩, ⟨#[73, 78, 84, 79]⟩, s.table, ⟨#[86, 65, 76, 85, 69, 83]⟩].map wordT ++ listL (s.row.map showV)
 else if s.kind = 4 then showP s
 else if s.kind = 5 then [[⟨#[85, 80, 68, 65, 84, 69]⟩, s.table, ⟨#[83, 69, 84]⟩, s.set].map wordT, [markT ⟨#[61]⟩], showO s.to, showW s.wher].flatten
 else if s.kind = 6 then [⟨#[68, 69, 76, 69, 84, 69]⟩, ⟨#[70, 82, 79, 77]⟩, s.table].map wordT ++ showW s.wher
 else [endN.getD (s.kind - 7).toNat ⟨#[]⟩].map wordT
structure ShS (s : StL) : Prop where
 fin : FinS s
 k1 : 1 ≤ s.kind
 k9 : s.kind ≤ 9
 c : s.kind = 1 → ∀ c ∈ s.cols, 1 ≤ c.k ∧ c.k ≤ 3
 r : s.kind = 3 → ∀ v ∈ s.row, okV v
 w : s.kind = 4 ∨ s.kind = 5 ∨ s.kind = 6 → s.wher.length = 0 ∨ exprL 0 s.wher = 0
 t : s.kind = 5 → exprL 0 s.to = 0
theorem list_pos (ts : List (List Tk)) : 0 < (listL ts).length := by unfold listL; rw [List.length_append]; simp
theorem list_len {ts : List (List Tk)} (h : ∀ x ∈ ts, x.length ≤ 10) : (listL ts).length ≤ 2 + 11 * ts.length := by
 have h1 := pre_len h ts.length
 unfold listL; rw [List.length_append]; simp only [List.length_cons, List.length_nil]; omega
theorem colT_10 (l : List ColL) : ∀ x ∈ l.map colT, x.length ≤ 10 := fun x hx => by obtain ⟨c, _, rfl⟩ := List.mem_map.1 hx; show 2 ≤ 10; decide
theorem showV_10 (l : List Vl) : ∀ x ∈ l.map showV, x.length ≤ 10 := fun x hx => by obtain ⟨v, _, rfl⟩ := List.mem_map.1 hx; have := showV_len v; omega

theorem info24_Pe6 : (Tryd.prog.info? 24).map (fun i => (i.zero, i.size, i.bytes)) = some (some (.agg #[.int .i64 0, .string ⟨#[]⟩, .int .i64 0]), 3, 32) := by kernel_rfl

theorem info26_Pe6 : (Tryd.prog.info? 26).map (fun i => (i.zero, i.size, i.bytes)) = some (some (.slice none 0 0), 1, 24) := by kernel_rfl

theorem show_vp (hty : (1, typesC) ∈ G) (s : StL) (hs : ShS s) : VP Tryd.prog G 33 [.agg (cSt s)] (.list 3 ((showS s).flatMap cT) (showS s).length) := by
 refine VC.body func33 rfl ntmps33 le_ fun X0 w0 S00 => ?_
 have hmx : maxLen = 9223372036854775807 := rfl
 have hf := hs.fin
 have h6 := hf.ok.1
 have h6r := hf.ok.2.1
 have h40 := hf.ok.2.2.2.1
 have h40t := hf.ok.2.2.2.2
 have hwl := showW_len s.wher
 have hol := showO_len s.wher
 have hol2 := showO_len s.to
 have hcl := list_len (colT_10 s.cols)
 have hvl := list_len (showV_10 s.row)
 have pickp := showPick_vp (G := G) s hf
 rw [List.length_map] at hcl hvl
 unfold cSt at pickp
 unfold cSt
 refine sr_ ?_
 refine OD.box (ds := [_, _, _, _, _, _, _, _, _, _, _, _]) wp_ rfl rfl ot rfl rfl (fun b1 => ?_)
 refine om_ ?_
 refine on_ [(1, _)] [⟨b1, 32, 12, [_, _, _, _, _, _, _, _, _, _, _, _]⟩] ?_
 refine CD.seq ?_
 refine sr_ ?_
 refine os_ (fa_ 0) ?_
 refine os_ ld_ ?_
 refine on_ [(1, _), (10, _)] [⟨b1, 32, 12, [_, _, _, _, _, _, _, _, _, _, _, _]⟩] ?_
 refine CD.block ?_
 refine sr_ ?_
 refine os_ bn_ ?_
 refine om_ ?_
 refine nm_ [1, 10, 11] ?_
 refine CD.cond ot (fun hc0 => ?_) (fun hc0 => ?_)
 ·have hc0' := hc0
  (try simp only [V.cnd, ne_eq] at hc0')
  refine sr_ ?_
  refine om_ ?_
  refine nm_ [1, 3] ?_
  refine CD.seq ?_
  refine sr_ ?_
  refine os_ (fa_ 2) ?_
  refine os_ ld_ ?_
  refine os_ ln_ ?_
  refine om_ ?_
  refine OD.wk (Wk.as_ (n := 107) (l' := [(1, _), (3, _), (14, _), (15, _), (16, _)]) (S' := (⟨b1, 32, 12, [_, _, _, _, _, _, _, _, _, _, _, _]⟩ :: [])) rfl rfl sl_) ?_
  refine OD.nil ?_
  refine CD.block ?_
  refine lp_ (fun (gh__ : Nat × Option Addr × Nat × List Blk) y__ => match gh__ with | (i, adx, cpx, Sx) => (i ≤ s.cols.length) ∧ (OwnL 26 1 (((s.cols.take i).map colT).flatMap cK) ((s.cols.take i).map colT).length adx cpx Sx) ∧ y__ = (⟨107, [(1, .v (.pointer (some ⟨b1, 0, none⟩))), (3, .v (.slice adx ((s.cols.take i).map colT).length cpx)), (14, .list 2 (s.cols.flatMap cC) s.cols.length), (15, .v (.int .i64 (s.cols.length : Nat))), (16, .v (.int .i64 (i : Nat)))], ((⟨b1, 32, 12, [.v (.int .i64 s.kind), .v (.string s.table), .list 2 (s.cols.flatMap cC) s.cols.length, .list 3 (s.row.flatMap cV) s.row.length, .list 1 (s.names.flatMap cS) s.names.length, .v (.bool s.count), .list 5 (s.wher.flatMap cO) s.wher.length, .v (.string s.order), .v (.bool s.down), .v (.int .i64 s.limit), .v (.string s.set), .list 5 (s.to.flatMap cO) s.to.length]⟩ : Blk) :: Sx)⟩ : St)) (fun (gh__ : Nat × Option Addr × Nat × List Blk) => match gh__ with | (i, adx, cpx, Sx) => s.cols.length - i) (0, none, 0, []) ⟨(Nat.zero_le _), (OwnL.cast ownL_nil (by first | rfl | simp)), rfl⟩ (Wk.asS rfl su_ (by repeat (first | exact trivial | refine ⟨(by (repeat (first | exact look_hit | (apply look_at; focus (first | rfl | (simp; done) | (congr 2; omega) | (apply row_eq; exact map_step colT hlt) | (apply row_eq; simp; done))) | (apply look_miss; focus rfl))); done), ?_⟩))) ?_
  rintro ⟨i, adx, cpx, Sx⟩ _ ⟨hi, hox, rfl⟩
  refine sr_ ?_
  refine os_ bn_ ?_
  refine nm_ [1, 3, 14, 15, 16, 17] ?_
  refine CD.seq ?_
  refine CD.cond ot (fun hc1 => ?_) (fun hc1 => ?_)
  ·have hc1' := hc1
   (try simp only [V.cnd, ne_eq] at hc1')
   have hlt : i < s.cols.length := by simp at hc1; omega
   have hki := hs.c hc0' _ (List.getElem_mem hlt)
   refine CD.skip ?_
   refine CD.seq ?_
   refine CD.block ?_
   refine sr_ ?_
   refine os_ (ix_ 2 (h := by first | exact .l (j := i) rfl hlt | exact .r (j := i) rfl hlt)) ?_
   refine os_ (still_r1 (mk := Op.load 95) rfl ot (by first | exact ld_blks (k := 0) (ds := [_, _]) rfl rfl isAgg95 sizeOf95 rfl rfl | exact ld_fms cC_len isAgg95 sizeOf95 (by first | assumption | omega) | exact ld_fms cV_len isAgg95 sizeOf95 (by first | assumption | omega) | exact ld_fms cS_len isAgg95 sizeOf95 (by first | assumption | omega) | exact ld_rows (k := 0) cC_len rfl rfl rfl isAgg95 sizeOf95 (by first | assumption | omega) | exact ld_rows (k := 0) cV_len rfl rfl rfl isAgg95 sizeOf95 (by first | assumption | omega) | exact ld_rows (k := 0) cS_len rfl rfl rfl isAgg95 sizeOf95 (by first | assumption | omega) | exact ld_is (ds := [_, _]) isAgg95 sizeOf95 rfl rfl)) ?_
   refine OD.alloc (ds := [_, _]) wp_ rfl rfl zeroValue95 rfl (fun b5 => ?_)
   refine ot_ 0 [_, _] sizeOf95 ?_
   refine OD.wk (Wk.as_ (n := 107) (l' := [(1, _), (3, _), (5, _), (14, _), (15, _), (16, _)]) (S' := (⟨b5, 95, 2, [_, _]⟩ :: ⟨b1, 32, 12, [_, _, _, _, _, _, _, _, _, _, _, _]⟩ :: Sx)) rfl rfl sl_) ?_
   refine OD.nil ?_
   refine CD.draw (bks (List.take 2 _)) kr_ (fun _ h => (List.Sublist.map _ (List.take_sublist _ _)).subset h) ?_
   refine a0_ 0 rfl mv_ ?_
   refine a0_ 1 rfl (fa_ 0) ?_
   refine a0_ 2 rfl ld_ ?_
   refine a0_ 3 rfl (fa_ 1) ?_
   refine a0_ 4 rfl ld_ ?_
   refine a0_ 5 rfl (still_r2 (mk := Op.indexAddr 99) rfl opd_glob ot (by first | exact ix_arr runUnderlying99 sizeOf9 rfl (by first | assumption | omega) | exact ix_arr (j := Int.toNat _) runUnderlying99 sizeOf9 (Int.toNat_of_nonneg (by omega)).symm (by omega))) ?_
   refine a0_ 6 rfl (still_r1 (mk := Op.load 9) rfl ot (by first | exact ld_blk (k := 0) rfl rfl isAgg9 rfl | exact ld_blk (k := 1) rfl rfl isAgg9 rfl | exact ld_fm cC_len isAgg9 (by first | assumption | omega) rfl | exact ld_fm0 cC_len isAgg9 (by first | assumption | omega) rfl | exact ld_fm cV_len isAgg9 (by first | assumption | omega) rfl | exact ld_fm0 cV_len isAgg9 (by first | assumption | omega) rfl | exact ld_fm cS_len isAgg9 (by first | assumption | omega) rfl | exact ld_fm0 cS_len isAgg9 (by first | assumption | omega) rfl | exact ld_row (k := 0) cC_len rfl rfl rfl isAgg9 (by first | assumption | omega) rfl | exact ld_row0 (k := 0) cC_len rfl rfl rfl isAgg9 (by first | assumption | omega) rfl | exact ld_row (k := 1) cC_len rfl rfl rfl isAgg9 (by first | assumption | omega) rfl | exact ld_row0 (k := 1) cC_len rfl rfl rfl isAgg9 (by first | assumption | omega) rfl | exact ld_row (k := 0) cV_len rfl rfl rfl isAgg9 (by first | assumption | omega) rfl | exact ld_row0 (k := 0) cV_len rfl rfl rfl isAgg9 (by first | assumption | omega) rfl | exact ld_row (k := 1) cV_len rfl rfl rfl isAgg9 (by first | assumption | omega) rfl | exact ld_row0 (k := 1) cV_len rfl rfl rfl isAgg9 (by first | assumption | omega) rfl | exact ld_row (k := 0) cS_len rfl rfl rfl isAgg9 (by first | assumption | omega) rfl | exact ld_row0 (k := 0) cS_len rfl rfl rfl isAgg9 (by first | assumption | omega) rfl | exact ld_row (k := 1) cS_len rfl rfl rfl isAgg9 (by first | assumption | omega) rfl | exact ld_row0 (k := 1) cS_len rfl rfl rfl isAgg9 (by first | assumption | omega) rfl | exact ld_i isAgg9 rfl | exact ld_tab hty isAgg9 (types_at hki.1 hki.2))) ?_
   refine AD0.later rfl ?_
   refine AD.one (i := 7) kr_ ?_
   refine ab_ (numD 0 [_, _]) [.string ⟨#[]⟩, .string ⟨#[]⟩] [_, _] zeroValue9 runUnderlying29 sizeOf9 (fun b27 => ?_)
   refine ag_ 0 27 1 2 ?_
   refine AD.one (i := 8) kr_ ?_
   refine ac_ call53 (all_vp [s.cols[i].n, typeS s.cols[i].k] (by show 2 ≤ 10; decide)) ?_
   refine AD.one (i := 9) kr_ ?_
   refine ab_ (numD 0 [_]) [.slice none 0 0] [_] zeroValue26 runUnderlying97 sizeOf26 (fun b29 => ?_)
   refine ag_ 0 29 1 1 ?_
   refine AD.one (i := 10) kr_ ?_
   refine AStep.appendOwn (Sq := Sx) (R := [_, _]) rfl wp_ rfl rfl underlying97 info26_Pe6 rfl (by decide) ot hox (List.perm_append_comm (l₁ := [_, _])) (fm_len cK_len _) ot (fm_one cK_one [colT s.cols[i]]) (by decide) (by rw [List.length_map, List.length_take]; simp only [maxLen]; omega) (by rw [List.length_map, List.length_take]; omega) bk_ (fun b30 cp30 h130 h230 => ?_)
   refine AD.perm (perm_q11 (S1 := [⟨b30, 26, cp30 * 1, List.flatMap cK ((s.cols.take i).map colT) ++ List.flatMap cK [colT s.cols[i]]⟩]) (A := [_, _])) ?_
   rw [show List.flatMap cK ((s.cols.take i).map colT) ++ List.flatMap cK [colT s.cols[i]] = List.flatMap cK ((s.cols.take i).map colT ++ [colT s.cols[i]]) from List.flatMap_append.symm, show ((s.cols.take i).map colT).length + 1 = ((s.cols.take i).map colT ++ [colT s.cols[i]]).length from by rw [List.length_append]; rfl]
   refine a1_ 11 rfl mv_ ?_
   refine AD.wk (y := ⟨107, [(1, _), (3, _), (14, _), (15, _), (16, _)], (⟨b5, 95, 2, [_, _]⟩ :: ⟨b1, 32, 12, [_, _, _, _, _, _, _, _, _, _, _, _]⟩ :: [⟨b30, 26, cp30 * 1, List.flatMap cK ((s.cols.take i).map colT ++ [colT s.cols[i]])⟩])⟩) (Wk.as_ rfl rfl sl_) rfl ?_
   refine AD.done kr_ ?_
   refine CD.region ?_
   refine os_ bn_ ?_
   refine om_ ?_
   refine nm_ [1, 3, 14, 15, 16] ?_
   refine ⟨((i + 1), (some ⟨b30, 0, none⟩), cp30, [⟨b30, 26, cp30 * 1, List.flatMap cK ((s.cols.take i).map colT ++ [colT s.cols[i]])⟩]), _, ?_, ?_, (by omega), (OwnL.cast (ownL_row (by rw [List.length_append]; exact h130) h230) (by exact map_step colT hlt)), rfl⟩
   ·first | omega | (simp only []; omega)
   exact Wk.asS (n := 107) rfl su_ (by repeat (first | exact trivial | refine ⟨(by (repeat (first | exact look_hit | (apply look_at; focus (first | rfl | (simp; done) | (congr 2; omega) | (apply row_eq; exact map_step colT hlt) | (apply row_eq; simp; done))) | (apply look_miss; focus rfl))); done), ?_⟩))
  have hc1' := hc1
  (try simp only [V.cnd, ne_eq] at hc1')
  have hend := map_end colT (show s.cols.length ≤ i by simp at hc1; omega)
  have hlv := list_vp (G := G) (s.cols.map colT) (by rw [List.length_map]; omega) (colT_10 s.cols)
  rw [← hend] at hlv hcl
  refine CD.exit ?_
  refine sr_ ?_
  refine os_ (fa_ 1) ?_
  refine os_ ld_ ?_
  refine ob_ (numD 0 [_, _, _]) [.string ⟨#[]⟩, .string ⟨#[]⟩, .string ⟨#[]⟩] [_, _, _] zeroValue9 runUnderlying29 sizeOf9 (fun b34 => ?_)
  refine OD.perm (perm_q22 (S2 := [⟨b34, 9, 3 * 1, List.flatMap cS ([⟨#[67, 82, 69, 65, 84, 69]⟩, ⟨#[84, 65, 66, 76, 69]⟩, s.table])⟩]) (A := [_])) ?_
  refine OD.giveL (t := 34) (Sq := [⟨b34, 9, 3 * 1, List.flatMap cS ([⟨#[67, 82, 69, 65, 84, 69]⟩, ⟨#[84, 65, 66, 76, 69]⟩, s.table])⟩]) lk (ownL_row (g := cS) (sz := 1) (e := 9) (ls := [⟨#[67, 82, 69, 65, 84, 69]⟩, ⟨#[84, 65, 66, 76, 69]⟩, s.table]) (Nat.le_refl _) (show 3 ≤ maxLen by decide)) (fm_len cS_len _) (perm_r22 (A := [_])) ?_
  refine OD.call wp_ rfl rfl rfl call53 (all_vc [⟨#[67, 82, 69, 65, 84, 69]⟩, ⟨#[84, 65, 66, 76, 69]⟩, s.table] (by show 3 ≤ 10; decide)) ⟨ot, trivial⟩ (perm_none _) ?_; rintro _ S35 ⟨ad35, cp35, rfl, ho35⟩
  refine OD.perm (perm_q22 (A := [_])) ?_
  refine om_ ?_
  refine OD.giveL (t := 36) (Sq := Sx) lk hox (fm_len cK_len _) (perm_r12 (A := [_])) ?_
  refine oc_ call54 (hlv) ?_
  refine OD.appendG (ls := ([⟨#[67, 82, 69, 65, 84, 69]⟩, ⟨#[84, 65, 66, 76, 69]⟩, s.table].map wordT)) (new := (listL ((s.cols.take i).map colT))) (Sq := S35) cT_len cT_one wp_ rfl rfl underlying26 info24_Pe6 rfl (by decide) ot ho35 (perm_r11 (A := [_])) ot (list_pos _) (by simp only [maxLen, List.length_append, List.length_map, List.length_cons, List.length_nil]; omega) (by simp only [List.length_append, List.length_map, List.length_cons, List.length_nil]; omega) (fun b38 cp38 h138 h238 => ?_)
  refine OD.perm (perm_q11 (S1 := [⟨b38, 24, cp38 * 3, List.flatMap cT (([⟨#[67, 82, 69, 65, 84, 69]⟩, ⟨#[84, 65, 66, 76, 69]⟩, s.table].map wordT) ++ (listL ((s.cols.take i).map colT)))⟩]) (A := [_])) ?_
  refine om_ ?_
  refine OD.wk (Wk.as_ (n := 107) (l' := [(2, _)]) (S' := (⟨b1, 32, 12, [_, _, _, _, _, _, _, _, _, _, _, _]⟩ :: [⟨b38, 24, cp38 * 3, List.flatMap cT (([⟨#[67, 82, 69, 65, 84, 69]⟩, ⟨#[84, 65, 66, 76, 69]⟩, s.table].map wordT) ++ (listL ((s.cols.take i).map colT)))⟩])) rfl rfl sl_) ?_
  refine OD.nil ?_
  refine CD.giveL (t := 2) (Sq := [⟨b38, 24, cp38 * 3, List.flatMap cT (([⟨#[67, 82, 69, 65, 84, 69]⟩, ⟨#[84, 65, 66, 76, 69]⟩, s.table].map wordT) ++ (listL ((s.cols.take i).map colT)))⟩]) lk (ownL_row h138 h238) (fm_len cT_len _) (perm_r11 (A := [_])) ?_
  refine CD.ret ?_
  refine ⟨.inr rfl, rt_ results33 ?_⟩
  refine ⟨?_, rfl⟩; unfold showS; rw [if_pos hc0', ← hend]
 have hc0' := hc0
 (try simp only [V.cnd, ne_eq] at hc0')
 refine sr_ ?_
 refine os_ bn_ ?_
 refine om_ ?_
 refine nm_ [1, 10, 39] ?_
 refine CD.cond ot (fun hc2 => ?_) (fun hc2 => ?_)
 ·have hc2' := hc2
  (try simp only [V.cnd, ne_eq] at hc2')
  refine sr_ ?_
  refine os_ (fa_ 1) ?_
  refine os_ ld_ ?_
  refine ob_ (numD 0 [_, _, _]) [.string ⟨#[]⟩, .string ⟨#[]⟩, .string ⟨#[]⟩] [_, _, _] zeroValue9 runUnderlying29 sizeOf9 (fun b43 => ?_)
  refine OD.perm (perm_q11 (S1 := [⟨b43, 9, 3 * 1, List.flatMap cS ([⟨#[68, 82, 79, 80]⟩, ⟨#[84, 65, 66, 76, 69]⟩, s.table])⟩]) (A := [_])) ?_
  refine OD.giveL (t := 43) (Sq := [⟨b43, 9, 3 * 1, List.flatMap cS ([⟨#[68, 82, 79, 80]⟩, ⟨#[84, 65, 66, 76, 69]⟩, s.table])⟩]) lk (ownL_row (g := cS) (sz := 1) (e := 9) (ls := [⟨#[68, 82, 79, 80]⟩, ⟨#[84, 65, 66, 76, 69]⟩, s.table]) (Nat.le_refl _) (show 3 ≤ maxLen by decide)) (fm_len cS_len _) (perm_r11 (A := [_])) ?_
  refine oc_ call53 (all_vp [⟨#[68, 82, 79, 80]⟩, ⟨#[84, 65, 66, 76, 69]⟩, s.table] (by show 3 ≤ 10; decide)) ?_
  refine om_ ?_
  refine on_ [(2, _)] [⟨b1, 32, 12, [_, _, _, _, _, _, _, _, _, _, _, _]⟩] ?_
  refine CD.ret ?_
  refine ⟨.inr rfl, rt_ results33 ?_⟩
  refine ⟨?_, rfl⟩; unfold showS; rw [if_neg hc0', if_pos hc2']
 have hc2' := hc2
 (try simp only [V.cnd, ne_eq] at hc2')
 refine sr_ ?_
 refine os_ bn_ ?_
 refine om_ ?_
 refine nm_ [1, 10, 45] ?_
 refine CD.cond ot (fun hc3 => ?_) (fun hc3 => ?_)
 ·have hc3' := hc3
  (try simp only [V.cnd, ne_eq] at hc3')
  refine sr_ ?_
  refine om_ ?_
  refine nm_ [1, 6] ?_
  refine CD.seq ?_
  refine sr_ ?_
  refine os_ (fa_ 3) ?_
  refine os_ ld_ ?_
  refine os_ ln_ ?_
  refine om_ ?_
  refine OD.wk (Wk.as_ (n := 107) (l' := [(1, _), (6, _), (48, _), (49, _), (50, _)]) (S' := (⟨b1, 32, 12, [_, _, _, _, _, _, _, _, _, _, _, _]⟩ :: [])) rfl rfl sl_) ?_
  refine OD.nil ?_
  refine CD.block ?_
  refine lp_ (fun (gh__ : Nat × Option Addr × Nat × List Blk) y__ => match gh__ with | (i, adv, cpv, Sv) => (i ≤ s.row.length) ∧ (OwnL 26 1 (((s.row.take i).map showV).flatMap cK) ((s.row.take i).map showV).length adv cpv Sv) ∧ y__ = (⟨107, [(1, .v (.pointer (some ⟨b1, 0, none⟩))), (6, .v (.slice adv ((s.row.take i).map showV).length cpv)), (48, .list 3 (s.row.flatMap cV) s.row.length), (49, .v (.int .i64 (s.row.length : Nat))), (50, .v (.int .i64 (i : Nat)))], ((⟨b1, 32, 12, [.v (.int .i64 s.kind), .v (.string s.table), .list 2 (s.cols.flatMap cC) s.cols.length, .list 3 (s.row.flatMap cV) s.row.length, .list 1 (s.names.flatMap cS) s.names.length, .v (.bool s.count), .list 5 (s.wher.flatMap cO) s.wher.length, .v (.string s.order), .v (.bool s.down), .v (.int .i64 s.limit), .v (.string s.set), .list 5 (s.to.flatMap cO) s.to.length]⟩ : Blk) :: Sv)⟩ : St)) (fun (gh__ : Nat × Option Addr × Nat × List Blk) => match gh__ with | (i, adv, cpv, Sv) => s.row.length - i) (0, none, 0, []) ⟨(Nat.zero_le _), (OwnL.cast ownL_nil (by first | rfl | simp)), rfl⟩ (Wk.asS rfl su_ (by repeat (first | exact trivial | refine ⟨(by (repeat (first | exact look_hit | (apply look_at; focus (first | rfl | (simp; done) | (congr 2; omega) | (apply row_eq; exact map_step showV hlt) | (apply row_eq; simp; done))) | (apply look_miss; focus rfl))); done), ?_⟩))) ?_
  rintro ⟨i, adv, cpv, Sv⟩ _ ⟨hi, hov, rfl⟩
  refine sr_ ?_
  refine os_ bn_ ?_
  refine nm_ [1, 6, 48, 49, 50, 51] ?_
  refine CD.seq ?_
  refine CD.cond ot (fun hc4 => ?_) (fun hc4 => ?_)
  ·have hc4' := hc4
   (try simp only [V.cnd, ne_eq] at hc4')
   have hlt : i < s.row.length := by simp at hc4; omega
   refine CD.skip ?_
   refine CD.seq ?_
   refine CD.block ?_
   refine sr_ ?_
   refine os_ (ix_ 3 (h := by first | exact .l (j := i) rfl hlt | exact .r (j := i) rfl hlt)) ?_
   refine os_ (still_r1 (mk := Op.load 37) rfl ot (by first | exact ld_blks (k := 0) (ds := [_, _, _]) rfl rfl isAgg37 sizeOf37 rfl rfl | exact ld_fms cC_len isAgg37 sizeOf37 (by first | assumption | omega) | exact ld_fms cV_len isAgg37 sizeOf37 (by first | assumption | omega) | exact ld_fms cS_len isAgg37 sizeOf37 (by first | assumption | omega) | exact ld_rows (k := 0) cC_len rfl rfl rfl isAgg37 sizeOf37 (by first | assumption | omega) | exact ld_rows (k := 0) cV_len rfl rfl rfl isAgg37 sizeOf37 (by first | assumption | omega) | exact ld_rows (k := 0) cS_len rfl rfl rfl isAgg37 sizeOf37 (by first | assumption | omega) | exact ld_is (ds := [_, _, _]) isAgg37 sizeOf37 rfl rfl)) ?_
   refine OD.alloc (ds := [_, _, _]) wp_ rfl rfl zeroValue37 rfl (fun b8 => ?_)
   refine ot_ 0 [_, _, _] sizeOf37 ?_
   refine OD.wk (Wk.as_ (n := 107) (l' := [(1, _), (6, _), (8, _), (48, _), (49, _), (50, _)]) (S' := (⟨b8, 37, 3, [_, _, _]⟩ :: ⟨b1, 32, 12, [_, _, _, _, _, _, _, _, _, _, _, _]⟩ :: Sv)) rfl rfl sl_) ?_
   refine OD.nil ?_
   refine CD.region ?_
   refine om_ ?_
   refine os_ (still_r1 (mk := Op.load 37) rfl ot (by first | exact ld_blks (k := 0) (ds := [_, _, _]) rfl rfl isAgg37 sizeOf37 rfl rfl | exact ld_fms cC_len isAgg37 sizeOf37 (by first | assumption | omega) | exact ld_fms cV_len isAgg37 sizeOf37 (by first | assumption | omega) | exact ld_fms cS_len isAgg37 sizeOf37 (by first | assumption | omega) | exact ld_rows (k := 0) cC_len rfl rfl rfl isAgg37 sizeOf37 (by first | assumption | omega) | exact ld_rows (k := 1) cC_len rfl rfl rfl isAgg37 sizeOf37 (by first | assumption | omega) | exact ld_rows (k := 0) cV_len rfl rfl rfl isAgg37 sizeOf37 (by first | assumption | omega) | exact ld_rows (k := 1) cV_len rfl rfl rfl isAgg37 sizeOf37 (by first | assumption | omega) | exact ld_rows (k := 0) cS_len rfl rfl rfl isAgg37 sizeOf37 (by first | assumption | omega) | exact ld_rows (k := 1) cS_len rfl rfl rfl isAgg37 sizeOf37 (by first | assumption | omega) | exact ld_is (ds := [_, _, _]) isAgg37 sizeOf37 rfl rfl)) ?_
   refine oc_ call55 (showValue_vp s.row[i] (hs.r hc3' _ (List.getElem_mem hlt))) ?_
   refine ob_ (numD 0 [_]) [.slice none 0 0] [_] zeroValue26 runUnderlying97 sizeOf26 (fun b57 => ?_)
   refine og_ 0 57 1 1 ?_
   refine OD.appendG (ls := ((s.row.take i).map showV)) (new := [showV s.row[i]]) (Sq := Sv) cK_len cK_one wp_ rfl rfl underlying97 info26_Pe6 rfl (by decide) ot hov (perm_r11 (A := [_, _])) ot (by simp) (by simp only [maxLen, List.length_map, List.length_take, List.length_cons, List.length_nil]; omega) (by simp only [List.length_map, List.length_take, List.length_cons, List.length_nil]; omega) (fun b58 cp58 h158 h258 => ?_)
   refine OD.perm (perm_q11 (S1 := [⟨b58, 26, cp58 * 1, List.flatMap cK (((s.row.take i).map showV) ++ [showV s.row[i]])⟩]) (A := [_, _])) ?_
   refine om_ ?_
   refine OD.wk (Wk.as_ (n := 107) (l' := [(1, _), (6, _), (48, _), (49, _), (50, _)]) (S' := (⟨b8, 37, 3, [_, _, _]⟩ :: ⟨b1, 32, 12, [_, _, _, _, _, _, _, _, _, _, _, _]⟩ :: [⟨b58, 26, cp58 * 1, List.flatMap cK (((s.row.take i).map showV) ++ [showV s.row[i]])⟩])) rfl rfl sl_) ?_
   refine OD.nil ?_
   refine CD.region ?_
   refine os_ bn_ ?_
   refine om_ ?_
   refine nm_ [1, 6, 48, 49, 50] ?_
   refine ⟨((i + 1), (some ⟨b58, 0, none⟩), cp58, [⟨b58, 26, cp58 * 1, List.flatMap cK (((s.row.take i).map showV) ++ [showV s.row[i]])⟩]), _, ?_, ?_, (by omega), (OwnL.cast (ownL_row h158 h258) (by exact map_step showV hlt)), rfl⟩
   ·first | omega | (simp only []; omega)
   exact Wk.asS (n := 107) rfl su_ (by repeat (first | exact trivial | refine ⟨(by (repeat (first | exact look_hit | (apply look_at; focus (first | rfl | (simp; done) | (congr 2; omega) | (apply row_eq; exact map_step showV hlt) | (apply row_eq; simp; done))) | (apply look_miss; focus rfl))); done), ?_⟩))
  have hc4' := hc4
  (try simp only [V.cnd, ne_eq] at hc4')
  have hend3 := map_end showV (show s.row.length ≤ i by simp at hc4; omega)
  have hlv := list_vp (G := G) (s.row.map showV) (by rw [List.length_map]; omega) (showV_10 s.row)
  rw [← hend3] at hlv hvl
  refine CD.exit ?_
  refine sr_ ?_
  refine os_ (fa_ 1) ?_
  refine os_ ld_ ?_
  refine ob_ (numD 0 [_, _, _, _]) [.string ⟨#[]⟩, .string ⟨#[]⟩, .string ⟨#[]⟩, .string ⟨#[]⟩] [_, _, _, _] zeroValue9 runUnderlying29 sizeOf9 (fun b62 => ?_)
  refine OD.perm (perm_q22 (S2 := [⟨b62, 9, 4 * 1, List.flatMap cS ([⟨#[73, 78, 83, 69, 82, 84]⟩, ⟨#[73, 78, 84, 79]⟩, s.table, ⟨#[86, 65, 76, 85, 69, 83]⟩])⟩]) (A := [_])) ?_
  refine OD.giveL (t := 62) (Sq := [⟨b62, 9, 4 * 1, List.flatMap cS ([⟨#[73, 78, 83, 69, 82, 84]⟩, ⟨#[73, 78, 84, 79]⟩, s.table, ⟨#[86, 65, 76, 85, 69, 83]⟩])⟩]) lk (ownL_row (g := cS) (sz := 1) (e := 9) (ls := [⟨#[73, 78, 83, 69, 82, 84]⟩, ⟨#[73, 78, 84, 79]⟩, s.table, ⟨#[86, 65, 76, 85, 69, 83]⟩]) (Nat.le_refl _) (show 4 ≤ maxLen by decide)) (fm_len cS_len _) (perm_r22 (A := [_])) ?_
  refine OD.call wp_ rfl rfl rfl call53 (all_vc [⟨#[73, 78, 83, 69, 82, 84]⟩, ⟨#[73, 78, 84, 79]⟩, s.table, ⟨#[86, 65, 76, 85, 69, 83]⟩] (by show 4 ≤ 10; decide)) ⟨ot, trivial⟩ (perm_none _) ?_; rintro _ S63 ⟨ad63, cp63, rfl, ho63⟩
  refine OD.perm (perm_q22 (A := [_])) ?_
  refine om_ ?_
  refine OD.giveL (t := 64) (Sq := Sv) lk hov (fm_len cK_len _) (perm_r12 (A := [_])) ?_
  refine oc_ call54 (hlv) ?_
  refine OD.appendG (ls := ([⟨#[73, 78, 83, 69, 82, 84]⟩, ⟨#[73, 78, 84, 79]⟩, s.table, ⟨#[86, 65, 76, 85, 69, 83]⟩].map wordT)) (new := (listL ((s.row.take i).map showV))) (Sq := S63) cT_len cT_one wp_ rfl rfl underlying26 info24_Pe6 rfl (by decide) ot ho63 (perm_r11 (A := [_])) ot (list_pos _) (by simp only [maxLen, List.length_append, List.length_map, List.length_cons, List.length_nil]; omega) (by simp only [List.length_append, List.length_map, List.length_cons, List.length_nil]; omega) (fun b66 cp66 h166 h266 => ?_)
  refine OD.perm (perm_q11 (S1 := [⟨b66, 24, cp66 * 3, List.flatMap cT (([⟨#[73, 78, 83, 69, 82, 84]⟩, ⟨#[73, 78, 84, 79]⟩, s.table, ⟨#[86, 65, 76, 85, 69, 83]⟩].map wordT) ++ (listL ((s.row.take i).map showV)))⟩]) (A := [_])) ?_
  refine om_ ?_
  refine OD.wk (Wk.as_ (n := 107) (l' := [(2, _)]) (S' := (⟨b1, 32, 12, [_, _, _, _, _, _, _, _, _, _, _, _]⟩ :: [⟨b66, 24, cp66 * 3, List.flatMap cT (([⟨#[73, 78, 83, 69, 82, 84]⟩, ⟨#[73, 78, 84, 79]⟩, s.table, ⟨#[86, 65, 76, 85, 69, 83]⟩].map wordT) ++ (listL ((s.row.take i).map showV)))⟩])) rfl rfl sl_) ?_
  refine OD.nil ?_
  refine CD.giveL (t := 2) (Sq := [⟨b66, 24, cp66 * 3, List.flatMap cT (([⟨#[73, 78, 83, 69, 82, 84]⟩, ⟨#[73, 78, 84, 79]⟩, s.table, ⟨#[86, 65, 76, 85, 69, 83]⟩].map wordT) ++ (listL ((s.row.take i).map showV)))⟩]) lk (ownL_row h166 h266) (fm_len cT_len _) (perm_r11 (A := [_])) ?_
  refine CD.ret ?_
  refine ⟨.inr rfl, rt_ results33 ?_⟩
  refine ⟨?_, rfl⟩; unfold showS; rw [if_neg hc0', if_neg hc2', if_pos hc3', ← hend3]
 have hc3' := hc3
 (try simp only [V.cnd, ne_eq] at hc3')
 refine sr_ ?_
 refine os_ bn_ ?_
 refine om_ ?_
 refine nm_ [1, 10, 67] ?_
 refine CD.cond ot (fun hc5 => ?_) (fun hc5 => ?_)
 ·have hc5' := hc5
  (try simp only [V.cnd, ne_eq] at hc5')
  refine sr_ ?_
  refine os_ (still_r1 (mk := Op.load 32) rfl ot (by first | exact ld_blks (k := 0) (ds := [_, _, _, _, _, _, _, _, _, _, _, _]) rfl rfl isAgg32 sizeOf32 rfl rfl | exact ld_fms cC_len isAgg32 sizeOf32 (by first | assumption | omega) | exact ld_fms cV_len isAgg32 sizeOf32 (by first | assumption | omega) | exact ld_fms cS_len isAgg32 sizeOf32 (by first | assumption | omega) | exact ld_rows (k := 0) cC_len rfl rfl rfl isAgg32 sizeOf32 (by first | assumption | omega) | exact ld_rows (k := 0) cV_len rfl rfl rfl isAgg32 sizeOf32 (by first | assumption | omega) | exact ld_rows (k := 0) cS_len rfl rfl rfl isAgg32 sizeOf32 (by first | assumption | omega) | exact ld_is (ds := [_, _, _, _, _, _, _, _, _, _, _, _]) isAgg32 sizeOf32 rfl rfl)) ?_
  refine oc_ call56 (pickp (hs.w (.inl hc5'))) ?_
  refine om_ ?_
  refine on_ [(2, _)] [⟨b1, 32, 12, [_, _, _, _, _, _, _, _, _, _, _, _]⟩] ?_
  refine CD.ret ?_
  refine ⟨.inr rfl, rt_ results33 ?_⟩
  refine ⟨?_, rfl⟩; unfold showS; rw [if_neg hc0', if_neg hc2', if_neg hc3', if_pos hc5']
 have hc5' := hc5
 (try simp only [V.cnd, ne_eq] at hc5')
 refine sr_ ?_
 refine os_ bn_ ?_
 refine om_ ?_
 refine nm_ [1, 10, 71] ?_
 refine CD.cond ot (fun hc6 => ?_) (fun hc6 => ?_)
 ·have hc6' := hc6
  (try simp only [V.cnd, ne_eq] at hc6')
  refine CD.seq ?_
  refine CD.draw (bks _) kr_ (fun _ h => h) ?_
  refine a0_ 0 rfl (fa_ 1) ?_
  refine a0_ 1 rfl ld_ ?_
  refine a0_ 2 rfl (fa_ 10) ?_
  refine a0_ 3 rfl ld_ ?_
  refine a0_ 8 rfl (fa_ 11) ?_
  refine a0_ 9 rfl ld_ ?_
  refine a0_ 11 rfl (fa_ 6) ?_
  refine a0_ 12 rfl ld_ ?_
  refine AD0.later rfl ?_
  refine AD.one (i := 4) kr_ ?_
  refine ab_ (numD 0 [_, _, _, _]) [.string ⟨#[]⟩, .string ⟨#[]⟩, .string ⟨#[]⟩, .string ⟨#[]⟩] [_, _, _, _] zeroValue9 runUnderlying29 sizeOf9 (fun b77 => ?_)
  refine ag_ 0 77 1 4 ?_
  refine AD.one (i := 5) kr_ ?_
  refine ac_ call53 (all_vp [⟨#[85, 80, 68, 65, 84, 69]⟩, s.table, ⟨#[83, 69, 84]⟩, s.set] (by show 4 ≤ 10; decide)) ?_
  refine AD.one (i := 6) kr_ ?_
  refine ac_ call58 (mark_vp ⟨#[61]⟩) ?_
  refine AD.two (i := 7) (j := 10) kr_ ?_ ?_
  ·skip
   refine ab_ (numD 0 [_]) [.int .i64 0, .string ⟨#[]⟩, .int .i64 0] [_, _, _] zeroValue24 runUnderlying26 sizeOf24 (fun b80 => ?_)
   refine ag_ 0 80 3 1 ?_
   refine AD.one (i := 10) kr_ ?_
   refine ac_ call59 (showOps_vp s.to h40t (hs.t hc6') (fun o h => (hf.x o h).2)) ?_
   refine AD.one (i := 13) kr_ ?_
   refine ac_ call60 (showWhere_vp s.wher h40 (hs.w (.inr (.inl hc6'))) (fun o h => (hf.w o h).2) (by omega)) ?_
   refine AD.one (i := 14) kr_ ?_
   refine ab_ (numD 0 [_, _, _, _]) [.slice none 0 0, .slice none 0 0, .slice none 0 0, .slice none 0 0] [_, _, _, _] zeroValue26 runUnderlying97 sizeOf26 (fun b87 => ?_)
   refine ag_ 0 87 1 4 ?_
   refine AD.one (i := 15) kr_ ?_
   refine ac_ call57 (concat_vp [[⟨#[85, 80, 68, 65, 84, 69]⟩, s.table, ⟨#[83, 69, 84]⟩, s.set].map wordT, [markT ⟨#[61]⟩], showO s.to, showW s.wher] (by show 4 ≤ 1000; decide) (by simp only [List.flatten_cons, List.flatten_nil, List.length_append, List.length_map, List.length_cons, List.length_nil]; omega) (by simp only [List.flatten_cons, List.flatten_nil, List.length_append, List.length_map, List.length_cons, List.length_nil]; omega)) ?_
   refine a1_ 16 rfl mv_ ?_
   refine aw_ [(2, _)] [⟨b1, 32, 12, [_, _, _, _, _, _, _, _, _, _, _, _]⟩] ?_
   refine AD.done kr_ ?_
   refine CD.ret ?_
   refine ⟨.inr rfl, rt_ results33 ?_⟩
   refine ⟨?_, rfl⟩; unfold showS; rw [if_neg hc0', if_neg hc2', if_neg hc3', if_neg hc5', if_pos hc6']
  refine ac_ call59 (showOps_vp s.to h40t (hs.t hc6') (fun o h => (hf.x o h).2)) ?_
  refine AD.two (i := 7) (j := 13) kr_ ?_ ?_
  ·skip
   refine ab_ (numD 0 [_]) [.int .i64 0, .string ⟨#[]⟩, .int .i64 0] [_, _, _] zeroValue24 runUnderlying26 sizeOf24 (fun b80 => ?_)
   refine ag_ 0 80 3 1 ?_
   refine AD.one (i := 13) kr_ ?_
   refine ac_ call60 (showWhere_vp s.wher h40 (hs.w (.inr (.inl hc6'))) (fun o h => (hf.w o h).2) (by omega)) ?_
   refine AD.one (i := 14) kr_ ?_
   refine ab_ (numD 0 [_, _, _, _]) [.slice none 0 0, .slice none 0 0, .slice none 0 0, .slice none 0 0] [_, _, _, _] zeroValue26 runUnderlying97 sizeOf26 (fun b87 => ?_)
   refine ag_ 0 87 1 4 ?_
   refine AD.one (i := 15) kr_ ?_
   refine ac_ call57 (concat_vp [[⟨#[85, 80, 68, 65, 84, 69]⟩, s.table, ⟨#[83, 69, 84]⟩, s.set].map wordT, [markT ⟨#[61]⟩], showO s.to, showW s.wher] (by show 4 ≤ 1000; decide) (by simp only [List.flatten_cons, List.flatten_nil, List.length_append, List.length_map, List.length_cons, List.length_nil]; omega) (by simp only [List.flatten_cons, List.flatten_nil, List.length_append, List.length_map, List.length_cons, List.length_nil]; omega)) ?_
   refine a1_ 16 rfl mv_ ?_
   refine aw_ [(2, _)] [⟨b1, 32, 12, [_, _, _, _, _, _, _, _, _, _, _, _]⟩] ?_
   refine AD.done kr_ ?_
   refine CD.ret ?_
   refine ⟨.inr rfl, rt_ results33 ?_⟩
   refine ⟨?_, rfl⟩; unfold showS; rw [if_neg hc0', if_neg hc2', if_neg hc3', if_neg hc5', if_pos hc6']
  refine ac_ call60 (showWhere_vp s.wher h40 (hs.w (.inr (.inl hc6'))) (fun o h => (hf.w o h).2) (by omega)) ?_
  refine AD.one (i := 7) kr_ ?_
  refine ab_ (numD 0 [_]) [.int .i64 0, .string ⟨#[]⟩, .int .i64 0] [_, _, _] zeroValue24 runUnderlying26 sizeOf24 (fun b80 => ?_)
  refine ag_ 0 80 3 1 ?_
  refine AD.one (i := 14) kr_ ?_
  refine ab_ (numD 0 [_, _, _, _]) [.slice none 0 0, .slice none 0 0, .slice none 0 0, .slice none 0 0] [_, _, _, _] zeroValue26 runUnderlying97 sizeOf26 (fun b87 => ?_)
  refine ag_ 0 87 1 4 ?_
  refine AD.one (i := 15) kr_ ?_
  refine ac_ call57 (concat_vp [[⟨#[85, 80, 68, 65, 84, 69]⟩, s.table, ⟨#[83, 69, 84]⟩, s.set].map wordT, [markT ⟨#[61]⟩], showO s.to, showW s.wher] (by show 4 ≤ 1000; decide) (by simp only [List.flatten_cons, List.flatten_nil, List.length_append, List.length_map, List.length_cons, List.length_nil]; omega) (by simp only [List.flatten_cons, List.flatten_nil, List.length_append, List.length_map, List.length_cons, List.length_nil]; omega)) ?_
  refine a1_ 16 rfl mv_ ?_
  refine aw_ [(2, _)] [⟨b1, 32, 12, [_, _, _, _, _, _, _, _, _, _, _, _]⟩] ?_
  refine AD.done kr_ ?_
  refine CD.ret ?_
  refine ⟨.inr rfl, rt_ results33 ?_⟩
  refine ⟨?_, rfl⟩; unfold showS; rw [if_neg hc0', if_neg hc2', if_neg hc3', if_neg hc5', if_pos hc6']
 have hc6' := hc6
 (try simp only [V.cnd, ne_eq] at hc6')
 refine sr_ ?_
 refine os_ bn_ ?_
 refine om_ ?_
 refine nm_ [1, 89] ?_
 refine CD.cond ot (fun hc7 => ?_) (fun hc7 => ?_)
 ·have hc7' := hc7
  (try simp only [V.cnd, ne_eq] at hc7')
  refine CD.seq ?_
  refine CD.draw (bks (List.take 1 _)) kr_ (fun _ h => (List.Sublist.map _ (List.take_sublist _ _)).subset h) ?_
  refine a0_ 0 rfl (fa_ 1) ?_
  refine a0_ 1 rfl ld_ ?_
  refine a0_ 4 rfl (fa_ 6) ?_
  refine a0_ 5 rfl ld_ ?_
  refine AD0.later rfl ?_
  refine AD.one (i := 2) kr_ ?_
  refine ab_ (numD 0 [_, _, _]) [.string ⟨#[]⟩, .string ⟨#[]⟩, .string ⟨#[]⟩] [_, _, _] zeroValue9 runUnderlying29 sizeOf9 (fun b93 => ?_)
  refine ag_ 0 93 1 3 ?_
  refine AD.one (i := 3) kr_ ?_
  refine AStep.call rfl wp_ rfl rfl rfl call53 (all_vc [⟨#[68, 69, 76, 69, 84, 69]⟩, ⟨#[70, 82, 79, 77]⟩, s.table] (by show 3 ≤ 10; decide)) ⟨ot, trivial⟩ (perm_none _) bk_ ?_; rintro _ S94 ⟨ad94, cp94, rfl, ho94⟩
  refine AD.perm (perm_q11 (A := [_])) ?_
  refine AD.one (i := 6) kr_ ?_
  refine ac_ call60 (showWhere_vp s.wher h40 (hs.w (.inr (.inr hc7'))) (fun o h => (hf.w o h).2) (by omega)) ?_
  refine AD.one (i := 7) kr_ ?_
  refine AStep.appendAny (ls := ([⟨#[68, 69, 76, 69, 84, 69]⟩, ⟨#[70, 82, 79, 77]⟩, s.table].map wordT)) (new := (showW s.wher)) (Sq := S94) cT_len cT_one rfl wp_ rfl rfl underlying26 info24_Pe6 rfl (by decide) runUnderlying26 sizeOf24 ot ho94 (perm_r11 (A := [_])) ot (by simp only [maxLen, List.length_append, List.length_map, List.length_cons, List.length_nil]; omega) (by simp only [List.length_append, List.length_map, List.length_cons, List.length_nil]; omega) (fun ad98 cp98 S98 ho98 => ?_)
  refine AD.perm (perm_q11 (A := [_])) ?_
  refine a1_ 8 rfl mv_ ?_
  refine AD.wk (y := ⟨107, [(2, _)], (⟨b1, 32, 12, [_, _, _, _, _, _, _, _, _, _, _, _]⟩ :: S98)⟩) (Wk.as_ rfl rfl sl_) rfl ?_
  refine AD.done kr_ ?_
  refine CD.giveL (t := 2) (Sq := S98) lk ho98 (fm_len cT_len _) (perm_r11 (A := [_])) ?_
  refine CD.ret ?_
  refine ⟨.inr rfl, rt_ results33 ?_⟩
  refine ⟨?_, rfl⟩; unfold showS; rw [if_neg hc0', if_neg hc2', if_neg hc3', if_neg hc5', if_neg hc6', if_pos hc7']
 have hc7' := hc7
 (try simp only [V.cnd, ne_eq] at hc7')
 refine CD.skip ?_
 refine CD.seq ?_
 obtain ⟨j, hj, hj3⟩ : ∃ j : Nat, s.kind = ((7 + j : Nat) : Int) ∧ j < endN.length := ⟨(s.kind - 7).toNat, by have := hs.k1; have := hs.k9; omega, by have := hs.k1; have := hs.k9; show _ < 3; omega⟩
 refine CD.region ?_
 refine ob_ (numD 0 [_, _, _]) [.string ⟨#[]⟩, .string ⟨#[]⟩, .string ⟨#[]⟩] [_, _, _] zeroValue9 runUnderlying29 sizeOf9 (fun b99 => ?_)
 refine OD.perm (perm_q11 (S1 := [⟨b99, 9, 3 * 1, List.flatMap cS (endN)⟩]) (A := [_])) ?_
 refine OD.giveL (t := 99) (Sq := [⟨b99, 9, 3 * 1, List.flatMap cS (endN)⟩]) lk (ownL_row (g := cS) (sz := 1) (e := 9) (ls := endN) (Nat.le_refl _) (show 3 ≤ maxLen by decide)) (fm_len cS_len _) (perm_r11 (A := [_])) ?_
 refine os_ (fa_ 0) ?_
 refine os_ ld_ ?_
 refine os_ (still_bin (r := .int .i64 ((j : Nat) : Int)) rfl ot opd_const (bin_sub (by rw [hj, show (((7 + j : Nat)) : Int) - 7 = ((j : Nat) : Int) by omega]; exact wrap_i64 (by omega) (by have : j < 3 := hj3; omega)))) ?_
 refine os_ (ix_ 1 (h := by first | exact .l (j := j) rfl hj3 | exact .r (j := j) rfl hj3)) ?_
 refine os_ (still_r1 (mk := Op.load 9) rfl ot (by exact ld_fm0 (i := j) cS_len isAgg9 hj3 rfl)) ?_
 refine ob_ (numD 0 [_]) [.string ⟨#[]⟩] [_] zeroValue9 runUnderlying29 sizeOf9 (fun b105 => ?_)
 refine OD.perm (perm_q11 (S1 := [⟨b105, 9, 1 * 1, List.flatMap cS ([endN[j]])⟩]) (A := [_])) ?_
 refine OD.giveL (t := 105) (Sq := [⟨b105, 9, 1 * 1, List.flatMap cS ([endN[j]])⟩]) lk (ownL_row (g := cS) (sz := 1) (e := 9) (ls := [endN[j]]) (Nat.le_refl _) (show 1 ≤ maxLen by decide)) (fm_len cS_len _) (perm_r11 (A := [_])) ?_
 refine oc_ call53 (all_vp [endN[j]] (by show 1 ≤ 10; decide)) ?_
 refine om_ ?_
 refine on_ [(2, _)] [⟨b1, 32, 12, [_, _, _, _, _, _, _, _, _, _, _, _]⟩] ?_
 refine CD.ret ?_
 refine ⟨.inr rfl, rt_ results33 ?_⟩
 refine ⟨?_, rfl⟩; unfold showS; rw [if_neg hc0', if_neg hc2', if_neg hc3', if_neg hc5', if_neg hc6', if_neg hc7', hj, show (((7 + j : Nat) : Int) - 7).toNat = j by omega, getD_at hj3]; first | done | rfl

end Go.Proofs.YtjgekbmahhhokaaDoor.Pa

namespace Go.Proofs.YtjgekbmahhhokaaDoor.Pa
open Go.Proofs.Tryd
open Go.RowKit V Pk Go.Proofs.YtjgekbmahhhokaaDoor.Vl Go.Proofs.YtjgekbmahhhokaaDoor.Nm
variable {G : List (Nat × List Value)}
theorem colsA_good : ∀ (l pre : List ColL), colsA pre l = 0 → ∀ c ∈ l, nameF c.n = 0 ∧ 1 ≤ c.k ∧ c.k ≤ 3
 | [], _, _, c, hc => by cases hc
 | a :: l, pre, h, c, hc => by
  have h : (if colF pre a ≠ 0 then colF pre a else colsA (pre ++ [a]) l) = 0 := h
  by_cases h0 : colF pre a = 0
  ·rw [if_neg (by simp [h0])] at h
   rcases List.mem_cons.1 hc with rfl | hc
   ·unfold colF at h0
    by_cases h1 : nameF c.n = 0
    ·rw [if_neg (by simp [h1])] at h0
     by_cases h2 : c.k < 1 ∨ c.k > 3
     ·rw [if_pos h2] at h0; cases h0
     exact ⟨h1, by omega⟩
    rw [if_pos h1] at h0; exact absurd h0 h1
   exact colsA_good l _ h c hc
  rw [if_pos h0] at h; exact absurd h h0
theorem cols_good {l : List ColL} (h : colsF l = 0) : (1 ≤ l.length ∧ l.length ≤ 6) ∧ ∀ c ∈ l, nameF c.n = 0 ∧ 1 ≤ c.k ∧ c.k ≤ 3 := by
 unfold colsF at h
 split at h
 ·cases h
 exact ⟨by omega, colsA_good l [] h⟩
theorem first_0 {α : Type} {f : α → Int} : ∀ {l : List α}, firstE f l = 0 → ∀ a ∈ l, f a = 0
 | [], _, a, h => by cases h
 | b :: r, h, a, ha => by
  unfold firstE at h
  split at h
  ·exact absurd h (by assumption)
  rcases List.mem_cons.1 ha with rfl | ha
  ·have hn : ¬ f a ≠ 0 := by assumption
   omega
  exact first_0 h a ha
theorem where_0 {l : List OpL} (h : whereF l = 0) : l.length = 0 ∨ exprL 0 l = 0 := by
 unfold whereF at h
 split at h
 ·exact .inl (by assumption)
 right; unfold exprF at h; split at h
 ·cases h
 exact h
theorem expr_0 {l : List OpL} (h : exprF l = 0) : exprL 0 l = 0 ∧ l.length ≤ 40 := by
 unfold exprF at h; split at h
 ·cases h
 exact ⟨h, by omega⟩
theorem err_0 {s : StL} (h : checkS s = 0) : errS s = 0 ∧ bareF s (hasS s) = true ∧ (s.kind < 7 → nameF s.table = 0) := by
 unfold checkS at h
 split at h
 ·rename_i h1; exact absurd h h1.2
 rename_i h1
 split at h
 ·cases h
 rename_i h2
 refine ⟨h, ?_, fun hk => ?_⟩
 ·cases hb : bareF s (hasS s) with
  | true => rfl
  | false => exact absurd ⟨h, hb⟩ h2
 by_cases hn : nameF s.table = 0
 ·exact hn
 exact absurd ⟨hk, hn⟩ h1
theorem sh_of {s : StL} (hf : FinS s) (h1 : 1 ≤ s.kind) (h9 : s.kind ≤ 9) (h : checkS s = 0) : ShS s := by
 have he := (err_0 h).1
 unfold errS at he
 refine ⟨hf, h1, h9, fun hk => ?_, fun hk v hv => ?_, fun hk => ?_, fun hk => ?_⟩
 ·rw [if_pos hk] at he
  exact fun c hc => ((cols_good he).2 c hc).2
 ·rw [if_neg (by omega), if_pos hk] at he
  unfold rowF at he
  split at he
  ·cases he
  exact lit_ok (first_0 he v hv) (hf.r v hv).1 (hf.r v hv).2
 ·by_cases h4 : s.kind = 4
  ·rw [if_neg (by omega), if_neg (by omega), if_pos h4] at he
   unfold pickF at he
   repeat' split at he
   all_goals first | (exfalso; omega) | exact where_0 (by omega)
  by_cases h5 : s.kind = 5
  ·rw [if_neg (by omega), if_neg (by omega), if_neg h4, if_pos h5] at he
   repeat' split at he
   all_goals first | (exfalso; omega) | exact where_0 he
  rw [if_neg (by omega), if_neg (by omega), if_neg h4, if_neg h5, if_pos (by omega)] at he
  exact where_0 he
 rw [if_neg (by omega), if_neg (by omega), if_neg (by omega), if_pos hk] at he
 repeat' split at he
 all_goals first | (exfalso; omega) | exact (expr_0 (by assumption)).1
def CheckF (s : StL) : Int := if s.kind < 1 ∨ s.kind > 9 then 2 else if checkS s ≠ 0 then checkS s else if (showS s).length > 100 then 10 else 0
def ShowF (s : StL) : List Tk × Int := if CheckF s ≠ 0 then ([], CheckF s) else (showS s, 0)
theorem Check_0 {s : StL} (h : CheckF s = 0) : 1 ≤ s.kind ∧ s.kind ≤ 9 ∧ checkS s = 0 ∧ (showS s).length ≤ 100 := by
 unfold CheckF at h
 split at h
 ·cases h
 split at h
 ·rename_i h2; exact absurd h h2
 split at h
 ·cases h
 rename_i h2 _; exact ⟨by omega, by omega, by omega, by omega⟩

theorem Check_vp (hm : (0, marksC) ∈ G) (hw : (2, wordsC) ∈ G) (hty : (1, typesC) ∈ G) (s : StL) (hf : FinS s) : VP Tryd.prog G 17 [.agg (cSt s)] (.v (.int .i64 (CheckF s))) := by
 refine VC.body func17 rfl ntmps17 le_ fun X0 w0 S00 => ?_
 have hmx : maxLen = 9223372036854775807 := rfl
 have hcv := checkS_vp hm hw s hf
 unfold cSt at hcv
 unfold cSt
 have hkx : (s.kind < 1 ∨ s.kind > 9) ∨ ¬ (s.kind < 1 ∨ s.kind > 9) := by omega
 refine sr_ ?_
 refine OD.box (ds := [_, _, _, _, _, _, _, _, _, _, _, _]) wp_ rfl rfl ot rfl rfl (fun b1 => ?_)
 refine om_ ?_
 refine on_ [(1, _)] [⟨b1, 32, 12, [_, _, _, _, _, _, _, _, _, _, _, _]⟩] ?_
 refine CD.seq ?_
 refine sr_ ?_
 refine os_ (fa_ 0) ?_
 refine os_ (lb_ 0) ?_
 refine os_ bn_ ?_
 refine om_ ?_
 refine OD.split (t := 7) lk (fun hg7 => ?_) (fun hg7 => ?_)
 ·have hg7' := hg7; (try simp only [V.cnd, ne_eq] at hg7')
  refine sk_ ?_
  refine sk_ ?_
  refine sk_ ?_
  refine os_ pkT_ ?_
  refine nm_ [1, 11] ?_
  refine CD.condT ot (by first | rfl | assumption) ?_
  have hres : CheckF s = 2 := if_pos (by omega)
  refine sr_ ?_
  refine om_ ?_
  refine nm_ [2] ?_
  refine CD.ret ?_
  refine r1_ ?_
  rw [hres]; exact ⟨rfl, rfl⟩
 have hg7' := hg7; (try simp only [V.cnd, ne_eq] at hg7')
 refine os_ (fa_ 0) ?_
 refine os_ (lb_ 0) ?_
 refine os_ bn_ ?_
 refine os_ pkF_ ?_
 refine nm_ [1, 11] ?_
 refine CD.cond ot (fun hc0 => ?_) (fun hc0 => ?_)
 ·have hc0' := hc0
  (try simp only [V.cnd, ne_eq] at hc0')
  have hres : CheckF s = 2 := if_pos (by omega)
  refine sr_ ?_
  refine om_ ?_
  refine nm_ [2] ?_
  refine CD.ret ?_
  refine r1_ ?_
  rw [hres]; exact ⟨rfl, rfl⟩
 have hc0' := hc0
 (try simp only [V.cnd, ne_eq] at hc0')
 have hk : ¬ (s.kind < 1 ∨ s.kind > 9) := by omega
 refine CD.skip ?_
 refine CD.seq ?_
 refine sr_ ?_
 refine os_ (lab_ 0 [_, _, _, _, _, _, _, _, _, _, _, _]) ?_
 refine oc_ call34 (hcv) ?_
 refine om_ ?_
 refine on_ [(1, _), (3, _)] [⟨b1, 32, 12, [_, _, _, _, _, _, _, _, _, _, _, _]⟩] ?_
 refine sr_ ?_
 refine om_ ?_
 refine os_ bn_ ?_
 refine nm_ [1, 3, 15] ?_
 refine CD.cond ot (fun hc1 => ?_) (fun hc1 => ?_)
 ·have hc1' := hc1
  (try simp only [V.cnd, ne_eq] at hc1')
  have hn : checkS s ≠ 0 := by simpa using hc1
  have hres : CheckF s = checkS s := by unfold CheckF; rw [if_neg hk, if_pos hn]
  refine sr_ ?_
  refine om_ ?_
  refine om_ ?_
  refine nm_ [2] ?_
  refine CD.ret ?_
  refine r1_ ?_
  rw [hres]; exact ⟨rfl, rfl⟩
 have hc1' := hc1
 (try simp only [V.cnd, ne_eq] at hc1')
 have h0 : checkS s = 0 := by simpa using hc1
 have hsv := show_vp hty s (sh_of hf (by omega) (by omega) h0)
 unfold cSt at hsv
 have hn0 : ¬ checkS s ≠ 0 := fun h => h h0
 refine CD.skip ?_
 refine CD.seq ?_
 refine sr_ ?_
 refine os_ (lab_ 0 [_, _, _, _, _, _, _, _, _, _, _, _]) ?_
 refine oc_ call33 (hsv) ?_
 refine os_ ln_ ?_
 refine os_ bn_ ?_
 refine on_ [(20, _)] [⟨b1, 32, 12, [_, _, _, _, _, _, _, _, _, _, _, _]⟩] ?_
 refine CD.cond ot (fun hc2 => ?_) (fun hc2 => ?_)
 ·have hc2' := hc2
  (try simp only [V.cnd, ne_eq] at hc2')
  have hres : CheckF s = 10 := by unfold CheckF; rw [if_neg hk, if_neg hn0, if_pos (by simp at hc2; omega)]
  refine sr_ ?_
  refine om_ ?_
  refine nm_ [2] ?_
  refine CD.ret ?_
  refine r1_ ?_
  rw [hres]; exact ⟨rfl, rfl⟩
 have hc2' := hc2
 (try simp only [V.cnd, ne_eq] at hc2')
 have hres : CheckF s = 0 := by unfold CheckF; rw [if_neg hk, if_neg hn0, if_neg (by simp at hc2; omega)]
 refine CD.skip ?_
 refine sr_ ?_
 refine om_ ?_
 refine nm_ [2] ?_
 refine CD.ret ?_
 refine r1_ ?_
 rw [hres]; exact ⟨rfl, rfl⟩

theorem Show_vp (hm : (0, marksC) ∈ G) (hw : (2, wordsC) ∈ G) (hty : (1, typesC) ∈ G) (s : StL) (hf : FinS s) : VP Tryd.prog G 16 [.agg (cSt s)] (.tup [.list 3 ((ShowF s).1.flatMap cT) (ShowF s).1.length, .v (.int .i64 (ShowF s).2)]) := by
 refine VC.body func16 rfl ntmps16 le_ fun X0 w0 S00 => ?_
 have hmx : maxLen = 9223372036854775807 := rfl
 have hcv := Check_vp hm hw hty s hf
 unfold cSt at hcv
 unfold cSt
 refine sr_ ?_
 refine OD.box (ds := [_, _, _, _, _, _, _, _, _, _, _, _]) wp_ rfl rfl ot rfl rfl (fun b1 => ?_)
 refine om_ ?_
 refine om_ ?_
 refine on_ [(1, _)] [⟨b1, 32, 12, [_, _, _, _, _, _, _, _, _, _, _, _]⟩] ?_
 refine CD.seq ?_
 refine sr_ ?_
 refine os_ (lab_ 0 [_, _, _, _, _, _, _, _, _, _, _, _]) ?_
 refine oc_ call17 (hcv) ?_
 refine om_ ?_
 refine on_ [(1, _), (4, _)] [⟨b1, 32, 12, [_, _, _, _, _, _, _, _, _, _, _, _]⟩] ?_
 refine sr_ ?_
 refine om_ ?_
 refine os_ bn_ ?_
 refine nm_ [1, 4, 8] ?_
 refine CD.cond ot (fun hc0 => ?_) (fun hc0 => ?_)
 ·have hc0' := hc0
  (try simp only [V.cnd, ne_eq] at hc0')
  have hn : CheckF s ≠ 0 := by simpa using hc0
  have hres : ShowF s = ([], CheckF s) := if_pos hn
  refine sr_ ?_
  refine om_ ?_
  refine om_ ?_
  refine om_ ?_
  refine nm_ [2, 3] ?_
  refine CD.wk (Wk.giveNil (t := 2) (sz := 3) lk) ?_
  refine CD.ret ?_
  refine r2_ ?_
  rw [hres]; exact ⟨rfl, rfl⟩
 have hc0' := hc0
 (try simp only [V.cnd, ne_eq] at hc0')
 have h0 : CheckF s = 0 := by simpa using hc0
 have hres : ShowF s = (showS s, 0) := if_neg (fun h => h h0)
 obtain ⟨q1, q2, q3, _⟩ := Check_0 h0
 have hsv := show_vp hty s (sh_of hf q1 q2 q3)
 unfold cSt at hsv
 refine CD.skip ?_
 refine sr_ ?_
 refine os_ (lab_ 0 [_, _, _, _, _, _, _, _, _, _, _, _]) ?_
 refine oc_ call33 (hsv) ?_
 refine om_ ?_
 refine om_ ?_
 refine on_ [(2, _), (3, _)] [⟨b1, 32, 12, [_, _, _, _, _, _, _, _, _, _, _, _]⟩] ?_
 refine CD.ret ?_
 refine ⟨.inr rfl, _, [], List.nil_sublist _, ret_two results16 (res_tmp le_ lk) (res_tmp le_ lk), ?_⟩
 rw [hres]; exact ⟨rfl, rfl⟩

end Go.Proofs.YtjgekbmahhhokaaDoor.Pa

namespace Go.Proofs.YtjgekbmahhhokaaDoor.Pa
open Go.Proofs.Tryd
end Go.Proofs.YtjgekbmahhhokaaDoor.Pa

