/-
  What the proof of ParseTorn leans on, part 5 of 6: walks of the program's functions at the level of values, and plain facts of what they compute.
-/
import Derived.Test.YtjgekbmahhhokaaDoorPParseTorn4
set_option linter.unusedVariables false
set_option linter.unusedSimpArgs false
set_option maxRecDepth 100000
set_option maxHeartbeats 4000000
namespace Go.Proofs.YtjgekbmahhhokaaDoor.Pa
open Go.Proofs.Tryd
open Go.RowKit V Pk Go.Proofs.YtjgekbmahhhokaaDoor.Vl Go.Proofs.YtjgekbmahhhokaaDoor.Nm
def isR (r : List Tk) (k : Int) (s : ByteArray) : Bool := match r with
 | [] => false
 | t :: _ => (t.k == k) && eqS t.s s
theorem isQ_R (l : List Tk) (p : Nat) (k : Int) (s : ByteArray) : isQ l p k s = isR (l.drop p) k s := by
 by_cases h : p < l.length
 ·rw [isQ_T h, List.drop_eq_getElem_cons h]; rfl
 rw [isQ_F h, List.drop_of_length_le (by omega)]; rfl
theorem drop_at {l : List Tk} {p : Nat} {t : Tk} {r : List Tk} (h : l.drop p = t :: r) : ∃ hp : p < l.length, l[p] = t ∧ l.drop (p + 1) = r := by
 have hp : p < l.length := by have := congrArg List.length h; simp at this; omega
 rw [List.drop_eq_getElem_cons hp] at h
 injection h with h1 h2
 exact ⟨hp, h1, h2⟩
theorem drop_app {l : List Tk} {p : Nat} {a r : List Tk} (h : l.drop p = a ++ r) : l.drop (p + a.length) = r := by
 rw [← List.drop_drop, h, List.drop_left]
theorem size_0 {s : ByteArray} (h : s.size = 0) : s = ⟨#[]⟩ := by
 obtain ⟨d⟩ := s
 have : d = #[] := Array.eq_empty_of_size_eq_zero h
 rw [this]
theorem kept_no {s : ByteArray} (h : nameF s = 0) {w : ByteArray} (hw : w ∈ wordsL) : eqS s w = false := by
 unfold nameF at h
 split at h
 ·cases h
 split at h
 ·cases h
 rename_i h2
 cases he : eqS s w with
 | false => rfl
 | true => exact absurd (by rw [Bool.or_eq_true]; exact .inr (List.any_eq_true.2 ⟨w, hw, he⟩)) h2
theorem name_ok {s : ByteArray} (h : nameF s = 0) : okWord s = true ∧ s.size ≤ 8 := by
 unfold nameF at h
 split at h
 ·cases h
 split at h
 ·cases h
 rename_i h1 h2
 rw [Bool.or_eq_true, Bool.not_eq_true'] at h2
 refine ⟨?_, by omega⟩
 cases hw : okWord s with
 | true => rfl
 | false => exact absurd (.inl hw) h2
theorem isR_word (s : ByteArray) (r : List Tk) (w : ByteArray) : isR (wordT s :: r) 1 w = eqS s w := by
 show ((1 : Int) == 1 && eqS s w) = _; simp
theorem isR_k {t : Tk} {r : List Tk} {k : Int} {s : ByteArray} (h : (t.k == k) = false) : isR (t :: r) k s = false := by
 show (t.k == k && eqS t.s s) = false; rw [h]; rfl
theorem nq_w {l : List Tk} {p : Nat} {s w : ByteArray} {r : List Tk} (hd : l.drop p = wordT s :: r) (h : eqS s w = false) : ¬ isQ l p 1 w = true := by rw [isQ_R, hd, isR_word, h]; exact Bool.false_ne_true
theorem yq_w {l : List Tk} {p : Nat} {s w : ByteArray} {r : List Tk} (hd : l.drop p = wordT s :: r) (h : eqS s w = true) : isQ l p 1 w = true := by rw [isQ_R, hd, isR_word, h]
theorem nq_k {l : List Tk} {p : Nat} {t : Tk} {k : Int} {w : ByteArray} {r : List Tk} (hd : l.drop p = t :: r) (h : (t.k == k) = false) : ¬ isQ l p k w = true := by rw [isQ_R, hd, isR_k h]; exact Bool.false_ne_true
theorem yq_m {l : List Tk} {p : Nat} {w : ByteArray} {r : List Tk} (hd : l.drop p = markT w :: r) : isQ l p 4 w = true := by
 rw [isQ_R, hd]; show ((4 : Int) == 4 && eqS w w) = true; rw [eqS_iff.2 rfl]; rfl
theorem nq_m {l : List Tk} {p : Nat} {s w : ByteArray} {r : List Tk} (hd : l.drop p = markT s :: r) (h : eqS s w = false) : ¬ isQ l p 4 w = true := by
 rw [isQ_R, hd]; show ¬ ((4 : Int) == 4 && eqS s w) = true; rw [h]; decide
theorem lit_of {v : Vl} (h : litF v = 0) {l : List Tk} {p : Nat} {r : List Tk} (ops : List OpL) (hd : l.drop p = showV v ++ r) : litP l p ops = .ok (v, true) (p + (showV v).length) ops := by
 obtain ⟨k, n, s⟩ := v
 have hc : checkV ⟨k, n, s⟩ = 0 ∧ ¬ (k = 2 ∧ n = -9223372036854775808) := by
  unfold litF at h
  split at h
  ·cases h
  exact ⟨h, by assumption⟩
 obtain ⟨hc, -⟩ := hc
 unfold checkV at hc
 dsimp only at hc
 by_cases h0 : k = 0
 ·subst h0
  rw [if_pos rfl] at hc
  have hn : n = 0 ∧ s.size = 0 := by (split at hc; cases hc; constructor <;> omega)
  obtain ⟨rfl, hs⟩ := hn
  rw [size_0 hs] at hd ⊢
  have e : showV ⟨0, 0, ⟨#[]⟩⟩ = [wordT ⟨#[78, 85, 76, 76]⟩] := by unfold showV; rw [if_pos rfl]
  rw [e] at hd ⊢
  unfold litP
  rw [if_pos (yq_w hd (by decide +kernel))]; rfl
 rw [if_neg h0] at hc
 by_cases h1 : k = 1
 ·subst h1
  rw [if_pos rfl] at hc
  have hn : (n = 0 ∨ n = 1) ∧ s.size = 0 := by (split at hc; cases hc; constructor <;> omega)
  obtain ⟨hn, hs⟩ := hn
  rw [size_0 hs] at hd ⊢
  rcases hn with rfl | rfl
  ·have e : showV ⟨1, 0, ⟨#[]⟩⟩ = [wordT ⟨#[70, 65, 76, 83, 69]⟩] := by unfold showV; rw [if_neg (by show ¬ (1 : Int) = 0; decide), if_pos rfl, if_pos rfl]
   rw [e] at hd ⊢
   unfold litP
   rw [if_neg (nq_w hd (by decide +kernel)), if_neg (nq_w hd (by decide +kernel)), if_pos (yq_w hd (by decide +kernel))]; rfl
  have e : showV ⟨1, 1, ⟨#[]⟩⟩ = [wordT ⟨#[84, 82, 85, 69]⟩] := by unfold showV; rw [if_neg (by show ¬ (1 : Int) = 0; decide), if_pos rfl, if_neg (by show ¬ (1 : Int) = 0; decide)]
  rw [e] at hd ⊢
  unfold litP
  rw [if_neg (nq_w hd (by decide +kernel)), if_pos (yq_w hd (by decide +kernel))]; rfl
 rw [if_neg h1] at hc
 by_cases h2 : k = 2
 ·subst h2
  rw [if_pos rfl] at hc
  have hs : s.size = 0 := by (split at hc; cases hc; omega)
  rw [size_0 hs] at hd ⊢
  by_cases hn : n < 0
  ·have e : showV ⟨2, n, ⟨#[]⟩⟩ = [markT ⟨#[45]⟩, ⟨2, ⟨#[]⟩, -n⟩] := by unfold showV; rw [if_neg (by show ¬ (2 : Int) = 0; decide), if_neg (by show ¬ (2 : Int) = 1; decide), if_neg (by show ¬ (2 : Int) = 3; decide), if_pos hn]
   rw [e] at hd ⊢
   obtain ⟨hp, e1, hd2⟩ := drop_at hd
   obtain ⟨hp2, e2, _⟩ := drop_at hd2
   unfold litP
   rw [if_neg (nq_k hd rfl), if_neg (nq_k hd rfl), if_neg (nq_k hd rfl), dif_neg (by rw [tk_at hp, e1]; exact fun h => absurd h.2 (by show ¬ (4 : Int) = 3; decide)), if_pos (yq_m hd), dif_pos ⟨hp2, by rw [tk_at hp2, e2]⟩]
   show (Rs.ok ((⟨2, -(l[p + 1]'hp2).n, ⟨#[]⟩⟩ : Vl), true) _ _ : Rs (Vl × Bool)) = _
   rw [e2]; simp
  have e : showV ⟨2, n, ⟨#[]⟩⟩ = [⟨2, ⟨#[]⟩, n⟩] := by unfold showV; rw [if_neg (by show ¬ (2 : Int) = 0; decide), if_neg (by show ¬ (2 : Int) = 1; decide), if_neg (by show ¬ (2 : Int) = 3; decide), if_neg hn]
  rw [e] at hd ⊢
  obtain ⟨hp, e1, hd2⟩ := drop_at hd
  unfold litP
  rw [if_neg (nq_k hd rfl), if_neg (nq_k hd rfl), if_neg (nq_k hd rfl), dif_neg (by rw [tk_at hp, e1]; exact fun h => absurd h.2 (by show ¬ (2 : Int) = 3; decide)), if_neg (nq_k hd rfl), dif_pos ⟨hp, by rw [tk_at hp, e1]⟩]
  show (Rs.ok ((⟨2, (l[p]'hp).n, ⟨#[]⟩⟩ : Vl), true) _ _ : Rs (Vl × Bool)) = _
  rw [e1]; rfl
 rw [if_neg h2] at hc
 by_cases h3 : k = 3
 ·subst h3
  rw [if_pos rfl] at hc
  have hn : n = 0 ∧ s.size ≤ 20 := by (split at hc; cases hc; split at hc; cases hc; constructor <;> omega)
  obtain ⟨rfl, hs⟩ := hn
  have e : showV ⟨3, 0, s⟩ = [⟨3, s, 0⟩] := by unfold showV; rw [if_neg (by show ¬ (3 : Int) = 0; decide), if_neg (by show ¬ (3 : Int) = 1; decide), if_pos rfl]
  rw [e] at hd ⊢
  obtain ⟨hp, e1, hd2⟩ := drop_at hd
  unfold litP
  rw [if_neg (nq_k hd rfl), if_neg (nq_k hd rfl), if_neg (nq_k hd rfl), dif_pos ⟨hp, by rw [tk_at hp, e1]⟩, if_neg (by rw [e1]; show ¬ s.size > 20; omega)]
  rw [e1]; rfl
 rw [if_neg h3] at hc; cases hc
theorem lit_no {l : List Tk} {p : Nat} {t : Tk} {r : List Tk} (ops : List OpL) (hd : l.drop p = t :: r) (h1 : ¬ isQ l p 1 wNULL = true) (h2 : ¬ isQ l p 1 wTRUE = true) (h3 : ¬ isQ l p 1 wFALSE = true) (h4 : t.k ≠ 3) (h5 : ¬ isQ l p 4 ⟨#[45]⟩ = true) (h6 : t.k ≠ 2) : litP l p ops = .ok (noVl, false) p ops := by
 obtain ⟨hp, e1, -⟩ := drop_at hd
 unfold litP
 rw [if_neg h1, if_neg h2, if_neg h3, dif_neg (by rw [tk_at hp, e1]; exact fun h => h4 h.2), if_neg h5, dif_neg (by rw [tk_at hp, e1]; exact fun h => h6 h.2)]
theorem name_of {l : List Tk} {p : Nat} {s : ByteArray} {r : List Tk} (ops : List OpL) (h : nameF s = 0) (hd : l.drop p = wordT s :: r) : nameP l p ops = .ok s (p + 1) ops := by
 obtain ⟨hp, e1, -⟩ := drop_at hd
 unfold nameP
 rw [dif_pos hp, e1, if_neg (by show ¬ (1 : Int) ≠ 1; decide), if_neg (by show ¬ nameF s ≠ 0; omega)]; rfl
theorem must_of {l : List Tk} {p : Nat} {w : ByteArray} {r : List Tk} (ops : List OpL) (hd : l.drop p = wordT w :: r) : mustP l [w] p ops = .ok () (p + 1) ops := by
 rw [mustP, if_pos (by rw [isQ_R, hd, isR_word]; exact eqS_iff.2 rfl)]; rfl
theorem mark_of {l : List Tk} {p : Nat} {w : ByteArray} {r : List Tk} (ops : List OpL) (hd : l.drop p = markT w :: r) : markP l w p ops = .ok () (p + 1) ops := by
 unfold markP
 rw [if_pos (by rw [isQ_R, hd]; show ((4 : Int) == 4 && eqS w w) = true; rw [eqS_iff.2 rfl]; rfl)]
/-! The levels, one by one. -/
theorem prim_eq (l : List Tk) (n p : Nat) (ops : List OpL) : exP l (n + 1) .prim p ops = (litP l p ops).bind fun v p ops => if v.2 = true then putP l ⟨1, v.1, ⟨#[]⟩⟩ p ops
   else if isQ l p 4 ⟨#[40]⟩ = true then (exP l n .or (p + 1) ops).bind fun _ p ops => markP l ⟨#[41]⟩ p ops
   else (nameP l p ops).bind fun s p ops => putP l ⟨2, noVl, s⟩ p ops := by rw [exP]
theorem prod_eq (l : List Tk) (n p : Nat) (ops : List OpL) : exP l (n + 1) .prod p ops = (exP l n .prim p ops).bind fun _ p ops => exP l n .prodL p ops := by rw [exP]
theorem prodL_eq (l : List Tk) (n p : Nat) (ops : List OpL) : exP l (n + 1) .prodL p ops = if isQ l p 4 ⟨#[42]⟩ = true then (exP l n .prim (p + 1) ops).bind fun _ p ops => (putP l (opN 10) p ops).bind fun _ p ops => exP l n .prodL p ops else .ok () p ops := by rw [exP]
theorem sum_eq (l : List Tk) (n p : Nat) (ops : List OpL) : exP l (n + 1) .sum p ops = (exP l n .prod p ops).bind fun _ p ops => exP l n .sumL p ops := by rw [exP]
theorem sumL_eq (l : List Tk) (n p : Nat) (ops : List OpL) : exP l (n + 1) .sumL p ops = if isQ l p 4 ⟨#[43]⟩ = true then (exP l n .prod (p + 1) ops).bind fun _ p ops => (putP l (opN 8) p ops).bind fun _ p ops => exP l n .sumL p ops
   else if isQ l p 4 ⟨#[45]⟩ = true then (exP l n .prod (p + 1) ops).bind fun _ p ops => (putP l (opN 9) p ops).bind fun _ p ops => exP l n .sumL p ops
   else .ok () p ops := by rw [exP]
theorem not_eq (l : List Tk) (n p : Nat) (ops : List OpL) : exP l (n + 1) .not p ops = if isQ l p 1 ⟨#[78, 79, 84]⟩ = true then (exP l n .not (p + 1) ops).bind fun _ p ops => putP l (opN 5) p ops else exP l n .comp p ops := by rw [exP]
theorem and_eq (l : List Tk) (n p : Nat) (ops : List OpL) : exP l (n + 1) .and p ops = (exP l n .not p ops).bind fun _ p ops => exP l n .andL p ops := by rw [exP]
theorem andL_eq (l : List Tk) (n p : Nat) (ops : List OpL) : exP l (n + 1) .andL p ops = if isQ l p 1 ⟨#[65, 78, 68]⟩ = true then (exP l n .not (p + 1) ops).bind fun _ p ops => (putP l (opN 3) p ops).bind fun _ p ops => exP l n .andL p ops else .ok () p ops := by rw [exP]
theorem or_eq (l : List Tk) (n p : Nat) (ops : List OpL) : exP l (n + 1) .or p ops = (exP l n .and p ops).bind fun _ p ops => exP l n .orL p ops := by rw [exP]
theorem orL_eq (l : List Tk) (n p : Nat) (ops : List OpL) : exP l (n + 1) .orL p ops = if isQ l p 1 ⟨#[79, 82]⟩ = true then (exP l n .and (p + 1) ops).bind fun _ p ops => (putP l (opN 4) p ops).bind fun _ p ops => exP l n .orL p ops else .ok () p ops := by rw [exP]
theorem comp_eq2 (l : List Tk) (n p : Nat) (ops : List OpL) : exP l (n + 1) .comp p ops = (exP l n .sum p ops).bind (fun _ p1 o1 => compK l n ops.length p1 o1) := comp_eq
theorem bind_cong {α β : Type} {r r' : Rs α} {f f' : α → Nat → List OpL → Rs β} (h : r.bind f ≠ .stuck) (h1 : r ≠ .stuck → r' = r) (h2 : ∀ v p o, f v p o ≠ .stuck → f' v p o = f v p o) : r'.bind f' = r.bind f := by
 rw [h1 (bind_ns h)]
 cases r with
 | ok v p o => exact h2 v p o h
 | no p e => rfl
 | stuck => rfl
theorem exP_mono (l : List Tk) : ∀ (n : Nat) (lv : Lv) (p : Nat) (ops : List OpL), exP l n lv p ops ≠ .stuck → exP l (n + 1) lv p ops = exP l n lv p ops
 | 0, lv, p, ops, h => absurd (by rw [exP]) h
 | n + 1, .prim, p, ops, h => by
  rw [prim_eq l n] at h
  rw [prim_eq l (n + 1) p ops, prim_eq l n p ops]
  refine bind_cong h (fun _ => rfl) fun v p o h => ?_
  split
  ·rfl
  split
  ·rw [if_neg (by assumption), if_pos (by assumption)] at h
   exact bind_cong h (exP_mono l n _ _ _) fun _ _ _ _ => rfl
  rfl
 | n + 1, .prod, p, ops, h => by
  rw [prod_eq l n] at h
  rw [prod_eq l (n + 1) p ops, prod_eq l n p ops]
  exact bind_cong h (exP_mono l n _ _ _) fun _ _ _ h => exP_mono l n _ _ _ h
 | n + 1, .sum, p, ops, h => by
  rw [sum_eq l n] at h
  rw [sum_eq l (n + 1) p ops, sum_eq l n p ops]
  exact bind_cong h (exP_mono l n _ _ _) fun _ _ _ h => exP_mono l n _ _ _ h
 | n + 1, .and, p, ops, h => by
  rw [and_eq l n] at h
  rw [and_eq l (n + 1) p ops, and_eq l n p ops]
  exact bind_cong h (exP_mono l n _ _ _) fun _ _ _ h => exP_mono l n _ _ _ h
 | n + 1, .or, p, ops, h => by
  rw [or_eq l n] at h
  rw [or_eq l (n + 1) p ops, or_eq l n p ops]
  exact bind_cong h (exP_mono l n _ _ _) fun _ _ _ h => exP_mono l n _ _ _ h
 | n + 1, .not, p, ops, h => by
  rw [not_eq l n] at h
  rw [not_eq l (n + 1) p ops, not_eq l n p ops]
  by_cases hq : isQ l p 1 ⟨#[78, 79, 84]⟩ = true
  ·rw [if_pos hq] at h
   rw [if_pos hq, if_pos hq]
   exact bind_cong h (exP_mono l n _ _ _) fun _ _ _ _ => rfl
  rw [if_neg hq] at h
  rw [if_neg hq, if_neg hq]
  exact exP_mono l n _ _ _ h
 | n + 1, .prodL, p, ops, h => by
  rw [prodL_eq l n] at h
  rw [prodL_eq l (n + 1) p ops, prodL_eq l n p ops]
  split
  ·rw [if_pos (by assumption)] at h
   exact bind_cong h (exP_mono l n _ _ _) fun _ _ _ h => bind_cong h (fun _ => rfl) fun _ _ _ h => exP_mono l n _ _ _ h
  rfl
 | n + 1, .andL, p, ops, h => by
  rw [andL_eq l n] at h
  rw [andL_eq l (n + 1) p ops, andL_eq l n p ops]
  split
  ·rw [if_pos (by assumption)] at h
   exact bind_cong h (exP_mono l n _ _ _) fun _ _ _ h => bind_cong h (fun _ => rfl) fun _ _ _ h => exP_mono l n _ _ _ h
  rfl
 | n + 1, .orL, p, ops, h => by
  rw [orL_eq l n] at h
  rw [orL_eq l (n + 1) p ops, orL_eq l n p ops]
  split
  ·rw [if_pos (by assumption)] at h
   exact bind_cong h (exP_mono l n _ _ _) fun _ _ _ h => bind_cong h (fun _ => rfl) fun _ _ _ h => exP_mono l n _ _ _ h
  rfl
 | n + 1, .sumL, p, ops, h => by
  rw [sumL_eq l n] at h
  rw [sumL_eq l (n + 1) p ops, sumL_eq l n p ops]
  split
  ·rw [if_pos (by assumption)] at h
   exact bind_cong h (exP_mono l n _ _ _) fun _ _ _ h => bind_cong h (fun _ => rfl) fun _ _ _ h => exP_mono l n _ _ _ h
  split
  ·rw [if_neg (by assumption), if_pos (by assumption)] at h
   exact bind_cong h (exP_mono l n _ _ _) fun _ _ _ h => bind_cong h (fun _ => rfl) fun _ _ _ h => exP_mono l n _ _ _ h
  rfl
 | n + 1, .comp, p, ops, h => by
  rw [comp_eq2 l n] at h
  rw [comp_eq2 l (n + 1) p ops, comp_eq2 l n p ops]
  refine bind_cong h (exP_mono l n _ _ _) fun _ p1 o1 h => ?_
  unfold compK at h ⊢
  split
  ·rfl
  rw [if_neg (by assumption)] at h
  split
  ·rfl
  rename_i m hm
  rw [hm] at h
  exact bind_cong h (exP_mono l n _ _ _) fun _ _ _ _ => rfl
theorem exP_more {l : List Tk} {n : Nat} {lv : Lv} {p : Nat} {ops : List OpL} (h : exP l n lv p ops ≠ .stuck) : ∀ k, exP l (n + k) lv p ops = exP l n lv p ops
 | 0 => rfl
 | k + 1 => by
  have ih := exP_more h k
  rw [← Nat.add_assoc, exP_mono l (n + k) lv p ops (by rw [ih]; exact h), ih]
def PX (l : List Tk) (lv : Lv) (p : Nat) (ops : List OpL) (q : Nat) (os : List OpL) : Prop := ∃ n, ∀ m, n ≤ m → exP l m lv p ops = .ok () q os
theorem PX.done {l : List Tk} {lv : Lv} {p q n : Nat} {ops os : List OpL} (h : PX l lv p ops q os) (hs : exP l n lv p ops ≠ .stuck) : exP l n lv p ops = .ok () q os := by
 obtain ⟨k, hk⟩ := h
 rw [← exP_more hs k]; exact hk _ (by omega)
theorem put_of {l : List Tk} {o : OpL} {p : Nat} {ops : List OpL} (h : ops.length ≠ 40) : putP l o p ops = .ok () p (ops ++ [o]) := by unfold putP; rw [if_neg h]
variable {l : List Tk} {p p1 p2 q : Nat} {ops o1 o2 os : List OpL}
theorem PX.prim_lit {v : Vl} (h : litP l p ops = .ok (v, true) q ops) (h4 : ops.length ≠ 40) : PX l .prim p ops q (ops ++ [⟨1, v, ⟨#[]⟩⟩]) := ⟨1, fun m hm => by
 obtain ⟨m, rfl⟩ : ∃ k, m = k + 1 := ⟨m - 1, by omega⟩
 rw [prim_eq, h, bind_ok, if_pos rfl, put_of h4]⟩
theorem PX.prim_col {s : ByteArray} {r : List Tk} (hn : nameF s = 0) (hd : l.drop p = wordT s :: r) (h4 : ops.length ≠ 40) : PX l .prim p ops (p + 1) (ops ++ [⟨2, noVl, s⟩]) := ⟨1, fun m hm => by
 obtain ⟨m, rfl⟩ : ∃ k, m = k + 1 := ⟨m - 1, by omega⟩
 rw [prim_eq, lit_no ops hd (nq_w hd (kept_no hn (List.mem_of_getElem? (i := 24) rfl))) (nq_w hd (kept_no hn (List.mem_of_getElem? (i := 25) rfl))) (nq_w hd (kept_no hn (List.mem_of_getElem? (i := 26) rfl))) (by show (1 : Int) ≠ 3; decide) (nq_k hd rfl) (by show (1 : Int) ≠ 2; decide), bind_ok, if_neg Bool.false_ne_true, if_neg (nq_k hd rfl), name_of ops hn hd, bind_ok, put_of h4]⟩
theorem PX.prim_par {r : List Tk} (hd : l.drop p = markT ⟨#[40]⟩ :: r) (h1 : PX l .or (p + 1) ops q os) {r2 : List Tk} (hd2 : l.drop q = markT ⟨#[41]⟩ :: r2) : PX l .prim p ops (q + 1) os := by
 obtain ⟨n1, h1⟩ := h1
 refine ⟨n1 + 1, fun m hm => ?_⟩
 obtain ⟨m, rfl⟩ : ∃ k, m = k + 1 := ⟨m - 1, by omega⟩
 rw [prim_eq, lit_no ops hd (nq_k hd rfl) (nq_k hd rfl) (nq_k hd rfl) (by show (4 : Int) ≠ 3; decide) (nq_m hd (by decide +kernel)) (by show (4 : Int) ≠ 2; decide), bind_ok, if_neg Bool.false_ne_true, if_pos (yq_m hd), h1 m (by omega), bind_ok, mark_of os hd2]

theorem PX.prod (h1 : PX l .prim p ops p1 o1) (h2 : PX l .prodL p1 o1 q os) : PX l .prod p ops q os := by
 obtain ⟨n1, h1⟩ := h1; obtain ⟨n2, h2⟩ := h2
 refine ⟨n1 + n2 + 1, fun m hm => ?_⟩
 obtain ⟨m, rfl⟩ : ∃ k, m = k + 1 := ⟨m - 1, by omega⟩
 rw [prod_eq, h1 m (by omega), bind_ok, h2 m (by omega)]

theorem PX.sum (h1 : PX l .prod p ops p1 o1) (h2 : PX l .sumL p1 o1 q os) : PX l .sum p ops q os := by
 obtain ⟨n1, h1⟩ := h1; obtain ⟨n2, h2⟩ := h2
 refine ⟨n1 + n2 + 1, fun m hm => ?_⟩
 obtain ⟨m, rfl⟩ : ∃ k, m = k + 1 := ⟨m - 1, by omega⟩
 rw [sum_eq, h1 m (by omega), bind_ok, h2 m (by omega)]

theorem PX.and (h1 : PX l .not p ops p1 o1) (h2 : PX l .andL p1 o1 q os) : PX l .and p ops q os := by
 obtain ⟨n1, h1⟩ := h1; obtain ⟨n2, h2⟩ := h2
 refine ⟨n1 + n2 + 1, fun m hm => ?_⟩
 obtain ⟨m, rfl⟩ : ∃ k, m = k + 1 := ⟨m - 1, by omega⟩
 rw [and_eq, h1 m (by omega), bind_ok, h2 m (by omega)]

theorem PX.or (h1 : PX l .and p ops p1 o1) (h2 : PX l .orL p1 o1 q os) : PX l .or p ops q os := by
 obtain ⟨n1, h1⟩ := h1; obtain ⟨n2, h2⟩ := h2
 refine ⟨n1 + n2 + 1, fun m hm => ?_⟩
 obtain ⟨m, rfl⟩ : ∃ k, m = k + 1 := ⟨m - 1, by omega⟩
 rw [or_eq, h1 m (by omega), bind_ok, h2 m (by omega)]

theorem PX.prodL_stop (h0 : isR (l.drop p) 4 ⟨#[42]⟩ = false) : PX l .prodL p ops p ops := ⟨1, fun m hm => by
 obtain ⟨m, rfl⟩ : ∃ k, m = k + 1 := ⟨m - 1, by omega⟩
 rw [prodL_eq, if_neg (by rw [isQ_R, h0]; decide)]⟩

theorem PX.sumL_stop (h0 : isR (l.drop p) 4 ⟨#[43]⟩ = false) (h1 : isR (l.drop p) 4 ⟨#[45]⟩ = false) : PX l .sumL p ops p ops := ⟨1, fun m hm => by
 obtain ⟨m, rfl⟩ : ∃ k, m = k + 1 := ⟨m - 1, by omega⟩
 rw [sumL_eq, if_neg (by rw [isQ_R, h0]; decide), if_neg (by rw [isQ_R, h1]; decide)]⟩

theorem PX.andL_stop (h0 : isR (l.drop p) 1 ⟨#[65, 78, 68]⟩ = false) : PX l .andL p ops p ops := ⟨1, fun m hm => by
 obtain ⟨m, rfl⟩ : ∃ k, m = k + 1 := ⟨m - 1, by omega⟩
 rw [andL_eq, if_neg (by rw [isQ_R, h0]; decide)]⟩

theorem PX.orL_stop (h0 : isR (l.drop p) 1 ⟨#[79, 82]⟩ = false) : PX l .orL p ops p ops := ⟨1, fun m hm => by
 obtain ⟨m, rfl⟩ : ∃ k, m = k + 1 := ⟨m - 1, by omega⟩
 rw [orL_eq, if_neg (by rw [isQ_R, h0]; decide)]⟩

theorem PX.mul  (h : isR (l.drop p) 4 ⟨#[42]⟩ = true) (h1 : PX l .prim (p + 1) ops p1 o1) (h4 : o1.length ≠ 40) (h2 : PX l .prodL p1 (o1 ++ [opN 10]) q os) : PX l .prodL p ops q os := by
 obtain ⟨n1, h1⟩ := h1; obtain ⟨n2, h2⟩ := h2
 refine ⟨n1 + n2 + 1, fun m hm => ?_⟩
 obtain ⟨m, rfl⟩ : ∃ k, m = k + 1 := ⟨m - 1, by omega⟩
 rw [prodL_eq, if_pos (by rw [isQ_R, h]), h1 m (by omega), bind_ok, put_of h4, bind_ok, h2 m (by omega)]

theorem PX.add  (h : isR (l.drop p) 4 ⟨#[43]⟩ = true) (h1 : PX l .prod (p + 1) ops p1 o1) (h4 : o1.length ≠ 40) (h2 : PX l .sumL p1 (o1 ++ [opN 8]) q os) : PX l .sumL p ops q os := by
 obtain ⟨n1, h1⟩ := h1; obtain ⟨n2, h2⟩ := h2
 refine ⟨n1 + n2 + 1, fun m hm => ?_⟩
 obtain ⟨m, rfl⟩ : ∃ k, m = k + 1 := ⟨m - 1, by omega⟩
 rw [sumL_eq, if_pos (by rw [isQ_R, h]), h1 m (by omega), bind_ok, put_of h4, bind_ok, h2 m (by omega)]

theorem PX.sub (g0 : isR (l.drop p) 4 ⟨#[43]⟩ = false) (h : isR (l.drop p) 4 ⟨#[45]⟩ = true) (h1 : PX l .prod (p + 1) ops p1 o1) (h4 : o1.length ≠ 40) (h2 : PX l .sumL p1 (o1 ++ [opN 9]) q os) : PX l .sumL p ops q os := by
 obtain ⟨n1, h1⟩ := h1; obtain ⟨n2, h2⟩ := h2
 refine ⟨n1 + n2 + 1, fun m hm => ?_⟩
 obtain ⟨m, rfl⟩ : ∃ k, m = k + 1 := ⟨m - 1, by omega⟩
 rw [sumL_eq, if_neg (by rw [isQ_R, g0]; decide), if_pos (by rw [isQ_R, h]), h1 m (by omega), bind_ok, put_of h4, bind_ok, h2 m (by omega)]

theorem PX.andGo  (h : isR (l.drop p) 1 ⟨#[65, 78, 68]⟩ = true) (h1 : PX l .not (p + 1) ops p1 o1) (h4 : o1.length ≠ 40) (h2 : PX l .andL p1 (o1 ++ [opN 3]) q os) : PX l .andL p ops q os := by
 obtain ⟨n1, h1⟩ := h1; obtain ⟨n2, h2⟩ := h2
 refine ⟨n1 + n2 + 1, fun m hm => ?_⟩
 obtain ⟨m, rfl⟩ : ∃ k, m = k + 1 := ⟨m - 1, by omega⟩
 rw [andL_eq, if_pos (by rw [isQ_R, h]), h1 m (by omega), bind_ok, put_of h4, bind_ok, h2 m (by omega)]

theorem PX.orGo  (h : isR (l.drop p) 1 ⟨#[79, 82]⟩ = true) (h1 : PX l .and (p + 1) ops p1 o1) (h4 : o1.length ≠ 40) (h2 : PX l .orL p1 (o1 ++ [opN 4]) q os) : PX l .orL p ops q os := by
 obtain ⟨n1, h1⟩ := h1; obtain ⟨n2, h2⟩ := h2
 refine ⟨n1 + n2 + 1, fun m hm => ?_⟩
 obtain ⟨m, rfl⟩ : ∃ k, m = k + 1 := ⟨m - 1, by omega⟩
 rw [orL_eq, if_pos (by rw [isQ_R, h]), h1 m (by omega), bind_ok, put_of h4, bind_ok, h2 m (by omega)]

theorem PX.not_go (h : isR (l.drop p) 1 ⟨#[78, 79, 84]⟩ = true) (h1 : PX l .not (p + 1) ops q os) (h4 : os.length ≠ 40) : PX l .not p ops q (os ++ [opN 5]) := by
 obtain ⟨n1, h1⟩ := h1
 refine ⟨n1 + 1, fun m hm => ?_⟩
 obtain ⟨m, rfl⟩ : ∃ k, m = k + 1 := ⟨m - 1, by omega⟩
 rw [not_eq, if_pos (by rw [isQ_R, h]), h1 m (by omega), bind_ok, put_of h4]
theorem PX.not_no (h : isR (l.drop p) 1 ⟨#[78, 79, 84]⟩ = false) (h1 : PX l .comp p ops q os) : PX l .not p ops q os := by
 obtain ⟨n1, h1⟩ := h1
 refine ⟨n1 + 1, fun m hm => ?_⟩
 obtain ⟨m, rfl⟩ : ∃ k, m = k + 1 := ⟨m - 1, by omega⟩
 rw [not_eq, if_neg (by rw [isQ_R, h]; decide), h1 m (by omega)]
theorem PX.comp_stop (h1 : PX l .sum p ops q os) (h2 : isR (l.drop q) 1 ⟨#[73, 83]⟩ = false) (h3 : (marksP.find? fun m => isR (l.drop q) 4 m.1) = none) : PX l .comp p ops q os := by
 obtain ⟨n1, h1⟩ := h1
 refine ⟨n1 + 1, fun m hm => ?_⟩
 obtain ⟨m, rfl⟩ : ∃ k, m = k + 1 := ⟨m - 1, by omega⟩
 rw [comp_eq2, h1 m (by omega), bind_ok, comp_N (by rw [isQ_R, h2]) (by simp only [isQ_R]; exact h3)]
theorem PX.comp_is {r : List Tk} (h1 : PX l .sum p ops q os) (hd : l.drop q = wordT ⟨#[73, 83]⟩ :: wordT wNULL :: r) (h4 : os.length ≠ 40) : PX l .comp p ops (q + 2) (os ++ [opN 11]) := by
 obtain ⟨n1, h1⟩ := h1
 refine ⟨n1 + 1, fun m hm => ?_⟩
 obtain ⟨m, rfl⟩ : ∃ k, m = k + 1 := ⟨m - 1, by omega⟩
 obtain ⟨-, -, hd2⟩ := drop_at hd
 have hn : ¬ isQ l (q + 1) 1 ⟨#[78, 79, 84]⟩ = true := nq_w hd2 (by decide +kernel)
 rw [comp_eq2, h1 m (by omega), bind_ok, comp_T (yq_w hd (by decide +kernel)), if_neg hn, must_of os hd2, bind_ok, put_of h4, bind_ok, if_neg hn]
theorem PX.comp_m {t : ByteArray} {k : Int} (h1 : PX l .sum p ops p1 o1) (h2 : isR (l.drop p1) 1 ⟨#[73, 83]⟩ = false) (h3 : (marksP.find? fun m => isR (l.drop p1) 4 m.1) = some (t, k, false, false)) (h5 : PX l .sum (p1 + 1) o1 q os) (h4 : os.length ≠ 40) : PX l .comp p ops q (os ++ [opN k]) := by
 obtain ⟨n1, h1⟩ := h1; obtain ⟨n2, h5⟩ := h5
 refine ⟨n1 + n2 + 1, fun m hm => ?_⟩
 obtain ⟨m, rfl⟩ : ∃ k, m = k + 1 := ⟨m - 1, by omega⟩
 rw [comp_eq2, h1 m (by omega), bind_ok, comp_S (by rw [isQ_R, h2]) (by simp only [isQ_R]; exact h3), h5 m (by omega), bind_ok, if_neg Bool.false_ne_true, put_of h4, bind_ok, if_neg Bool.false_ne_true]
def stopT (r : List Tk) : Bool := !(isR r 4 ⟨#[42]⟩) && (!(isR r 4 ⟨#[43]⟩) && (!(isR r 4 ⟨#[45]⟩) && (!(isR r 1 ⟨#[73, 83]⟩) && ((marksP.find? fun m => isR r 4 m.1).isNone && (!(isR r 1 ⟨#[65, 78, 68]⟩) && !(isR r 1 ⟨#[79, 82]⟩))))))
theorem stop_inv {r : List Tk} (h : stopT r = true) : isR r 4 ⟨#[42]⟩ = false ∧ isR r 4 ⟨#[43]⟩ = false ∧ isR r 4 ⟨#[45]⟩ = false ∧ isR r 1 ⟨#[73, 83]⟩ = false ∧ (marksP.find? fun m => isR r 4 m.1) = none ∧ isR r 1 ⟨#[65, 78, 68]⟩ = false ∧ isR r 1 ⟨#[79, 82]⟩ = false := by
 unfold stopT at h
 simp only [Bool.and_eq_true, Bool.not_eq_true'] at h
 obtain ⟨h1, h2, h3, h4, h5, h6, h7⟩ := h
 exact ⟨h1, h2, h3, h4, Option.isNone_iff_eq_none.1 h5, h6, h7⟩
theorem PX.to_prod (h : PX l .prim p ops q os) (h1 : isR (l.drop q) 4 ⟨#[42]⟩ = false) : PX l .prod p ops q os := PX.prod h (PX.prodL_stop h1)
theorem PX.to_sum (h : PX l .prod p ops q os) (h1 : isR (l.drop q) 4 ⟨#[43]⟩ = false) (h2 : isR (l.drop q) 4 ⟨#[45]⟩ = false) : PX l .sum p ops q os := PX.sum h (PX.sumL_stop h1 h2)
theorem PX.not_of (h : PX l .sum p ops q os) (hn : isR (l.drop p) 1 ⟨#[78, 79, 84]⟩ = false) (h1 : isR (l.drop q) 1 ⟨#[73, 83]⟩ = false) (h2 : (marksP.find? fun m => isR (l.drop q) 4 m.1) = none) : PX l .not p ops q os := PX.not_no hn (PX.comp_stop h h1 h2)
theorem PX.or_of (h : PX l .not p ops q os) (h1 : isR (l.drop q) 1 ⟨#[65, 78, 68]⟩ = false) (h2 : isR (l.drop q) 1 ⟨#[79, 82]⟩ = false) : PX l .or p ops q os := PX.or (PX.and h (PX.andL_stop h1)) (PX.orL_stop h2)
theorem PX.all (h : PX l .prim p ops q os) (hn : isR (l.drop p) 1 ⟨#[78, 79, 84]⟩ = false) (hs : stopT (l.drop q) = true) : PX l .or p ops q os := by
 obtain ⟨h1, h2, h3, h4, h5, h6, h7⟩ := stop_inv hs
 exact PX.or_of (PX.not_of ((h.to_prod h1).to_sum h2 h3) hn h4 h5) h6 h7
inductive Ex where
 | lit (v : Vl)
 | col (s : ByteArray)
 | not (e : Ex)
 | isn (e : Ex)
 | bin (k : Int) (a b : Ex)
def Ex.opl : Ex → List OpL
 | .lit v => [⟨1, v, ⟨#[]⟩⟩]
 | .col s => [⟨2, noVl, s⟩]
 | .not e => e.opl ++ [opN 5]
 | .isn e => e.opl ++ [opN 11]
 | .bin k a b => a.opl ++ b.opl ++ [opN k]
def Ex.tkl : Ex → List Tk
 | .lit v => showV v
 | .col s => [wordT s]
 | .not e => [[markT ⟨#[40]⟩, wordT ⟨#[78, 79, 84]⟩], e.tkl, [markT ⟨#[41]⟩]].flatten
 | .isn e => [[markT ⟨#[40]⟩], e.tkl, [wordT ⟨#[73, 83]⟩, wordT ⟨#[78, 85, 76, 76]⟩], [markT ⟨#[41]⟩]].flatten
 | .bin k a b => [[markT ⟨#[40]⟩], a.tkl, [betT k], b.tkl, [markT ⟨#[41]⟩]].flatten
def Ex.good : Ex → Prop
 | .lit v => litF v = 0
 | .col s => nameF s = 0
 | .not e => e.good
 | .isn e => e.good
 | .bin k a b => (k = 3 ∨ k = 4 ∨ 6 ≤ k ∧ k ≤ 10) ∧ a.good ∧ b.good
theorem first_not : ∀ {e : Ex}, e.good → ∀ r, isR (e.tkl ++ r) 1 ⟨#[78, 79, 84]⟩ = false
 | .lit v, h, r => by
  show isR (showV v ++ r) _ _ = false
  unfold showV
  repeat' split
  all_goals first | exact isR_k rfl | exact (isR_word _ _ _).trans (by decide +kernel)
 | .col s, h, r => by show isR (wordT s :: r) 1 _ = false; rw [isR_word]; exact kept_no h (List.mem_of_getElem? (i := 22) rfl)
 | .not e, _, r => by show isR (markT _ :: _) 1 _ = false; exact isR_k rfl
 | .isn e, _, r => by show isR (markT _ :: _) 1 _ = false; exact isR_k rfl
 | .bin k a b, _, r => by show isR (markT _ :: _) 1 _ = false; exact isR_k rfl
end Go.Proofs.YtjgekbmahhhokaaDoor.Pa

namespace Go.Proofs.YtjgekbmahhhokaaDoor.Pa
open Go.Proofs.Tryd
open Go.RowKit V Pk Go.Proofs.YtjgekbmahhhokaaDoor.Vl Go.Proofs.YtjgekbmahhhokaaDoor.Nm
theorem len_flat3 (a b c : List Tk) : [a, b, c].flatten.length = a.length + b.length + c.length := by simp; omega
theorem first_at {e : Ex} (h : e.good) {l : List Tk} {p : Nat} {r : List Tk} (hd : l.drop p = e.tkl ++ r) : isR (l.drop p) 1 ⟨#[78, 79, 84]⟩ = false := by rw [hd]; exact first_not h r
theorem prim_ok : ∀ (e : Ex), e.good → ∀ {l : List Tk} {p : Nat} {r : List Tk} {ops : List OpL}, l.drop p = e.tkl ++ r → ops.length + e.opl.length ≤ 40 → PX l .prim p ops (p + e.tkl.length) (ops ++ e.opl)
 | .lit v, h, l, p, r, ops, hd, hl => PX.prim_lit (lit_of h ops hd) (by simp only [Ex.opl, List.length_cons, List.length_nil] at hl; omega)
 | .col s, h, l, p, r, ops, hd, hl => PX.prim_col h hd (by simp only [Ex.opl, List.length_cons, List.length_nil] at hl; omega)
 | .not e, h, l, p, r, ops, hd, hl => by
  simp only [Ex.opl, List.length_append, List.length_cons, List.length_nil] at hl
  have hd' : l.drop p = markT ⟨#[40]⟩ :: wordT ⟨#[78, 79, 84]⟩ :: (e.tkl ++ (markT ⟨#[41]⟩ :: r)) := by rw [hd]; simp [Ex.tkl]
  obtain ⟨-, -, hd1⟩ := drop_at hd'
  obtain ⟨-, -, hd2⟩ := drop_at hd1
  have hd3 := drop_app hd2
  have h1 := prim_ok e h hd2 (ops := ops) (by omega)
  obtain ⟨s1, s2, s3, s4, s5, s6, s7⟩ := stop_inv (r := l.drop (p + 1 + 1 + e.tkl.length)) (by rw [hd3]; kernel_rfl)
  have h2 := PX.not_of ((h1.to_prod s1).to_sum s2 s3) (first_at (e := e) h hd2) s4 s5
  have h3 := PX.or_of (PX.not_go (by rw [hd1]; kernel_rfl) h2 (by rw [List.length_append]; omega)) s6 s7
  have h4 := PX.prim_par hd' h3 hd3
  rw [show p + (Ex.not e).tkl.length = p + 1 + 1 + e.tkl.length + 1 by rw [Ex.tkl, len_flat3]; simp only [List.length_cons, List.length_nil]; omega, Ex.opl, ← List.append_assoc]
  exact h4
 | .isn e, h, l, p, r, ops, hd, hl => by
  simp only [Ex.opl, List.length_append, List.length_cons, List.length_nil] at hl
  have hd' : l.drop p = markT ⟨#[40]⟩ :: (e.tkl ++ (wordT ⟨#[73, 83]⟩ :: wordT wNULL :: (markT ⟨#[41]⟩ :: r))) := by rw [hd]; simp [Ex.tkl]; rfl
  obtain ⟨-, -, hd1⟩ := drop_at hd'
  have hd2 := drop_app hd1
  obtain ⟨-, -, hd3⟩ := drop_at hd2
  obtain ⟨-, -, hd4⟩ := drop_at hd3
  have h1 := prim_ok e h hd1 (ops := ops) (by omega)
  obtain ⟨s1, s2, s3, s4, s5, s6, s7⟩ := stop_inv (r := l.drop (p + 1 + e.tkl.length + 1 + 1)) (by rw [hd4]; kernel_rfl)
  have h2 := PX.comp_is ((h1.to_prod (by rw [hd2]; kernel_rfl)).to_sum (by rw [hd2]; kernel_rfl) (by rw [hd2]; kernel_rfl)) hd2 (by rw [List.length_append]; omega)
  have h3 := PX.or_of (PX.not_no (first_at (e := e) h hd1) h2) s6 s7
  have h4 := PX.prim_par hd' h3 hd4
  rw [show p + (Ex.isn e).tkl.length = p + 1 + e.tkl.length + 2 + 1 by rw [Ex.tkl]; simp; omega, Ex.opl, ← List.append_assoc]
  exact h4
 | .bin k a b, h, l, p, r, ops, hd, hl => by
  simp only [Ex.opl, List.length_append, List.length_cons, List.length_nil] at hl
  obtain ⟨hk, ga, gb⟩ := h
  have hd' : l.drop p = markT ⟨#[40]⟩ :: (a.tkl ++ (betT k :: (b.tkl ++ (markT ⟨#[41]⟩ :: r)))) := by rw [hd]; simp [Ex.tkl]
  obtain ⟨-, -, hd1⟩ := drop_at hd'
  have hd2 := drop_app hd1
  obtain ⟨-, -, hd3⟩ := drop_at hd2
  have hd4 := drop_app hd3
  have ha := prim_ok a ga hd1 (ops := ops) (by omega)
  have hb := prim_ok b gb hd3 (ops := ops ++ a.opl) (by rw [List.length_append]; omega)
  obtain ⟨s1, s2, s3, s4, s5, s6, s7⟩ := stop_inv (r := l.drop (p + 1 + a.tkl.length + 1 + b.tkl.length)) (by rw [hd4]; kernel_rfl)
  have hla : (ops ++ a.opl).length ≠ 40 := by rw [List.length_append]; omega
  have hlb : (ops ++ a.opl ++ b.opl).length ≠ 40 := by rw [List.length_append, List.length_append]; omega
  have na := first_at ga hd1
  have nb := first_at gb hd3
  have key : PX l .or (p + 1) ops (p + 1 + a.tkl.length + 1 + b.tkl.length) (ops ++ a.opl ++ b.opl ++ [opN k]) := by
   have hk' : k = 3 ∨ k = 4 ∨ k = 6 ∨ k = 7 ∨ k = 8 ∨ k = 9 ∨ k = 10 := by omega
   rcases hk' with rfl | rfl | rfl | rfl | rfl | rfl | rfl
   ·have xa := PX.not_of ((ha.to_prod (by rw [hd2]; kernel_rfl)).to_sum (by rw [hd2]; kernel_rfl) (by rw [hd2]; kernel_rfl)) na (by rw [hd2]; kernel_rfl) (by rw [hd2]; kernel_rfl)
    have xb := PX.not_of ((hb.to_prod s1).to_sum s2 s3) nb s4 s5
    exact PX.or (PX.and xa (PX.andGo (by rw [hd2]; kernel_rfl) xb hlb (PX.andL_stop s6))) (PX.orL_stop s7)
   ·have xa := PX.and (PX.not_of ((ha.to_prod (by rw [hd2]; kernel_rfl)).to_sum (by rw [hd2]; kernel_rfl) (by rw [hd2]; kernel_rfl)) na (by rw [hd2]; kernel_rfl) (by rw [hd2]; kernel_rfl)) (PX.andL_stop (by rw [hd2]; kernel_rfl))
    have xb := PX.and (PX.not_of ((hb.to_prod s1).to_sum s2 s3) nb s4 s5) (PX.andL_stop s6)
    exact PX.or xa (PX.orGo (by rw [hd2]; kernel_rfl) xb hlb (PX.orL_stop s7))
   ·exact PX.or_of (PX.not_no na (PX.comp_m (t := ⟨#[61]⟩) ((ha.to_prod (by rw [hd2]; kernel_rfl)).to_sum (by rw [hd2]; kernel_rfl) (by rw [hd2]; kernel_rfl)) (by rw [hd2]; kernel_rfl) (by rw [hd2]; kernel_rfl) ((hb.to_prod s1).to_sum s2 s3) hlb)) s6 s7
   ·exact PX.or_of (PX.not_no na (PX.comp_m (t := ⟨#[60]⟩) ((ha.to_prod (by rw [hd2]; kernel_rfl)).to_sum (by rw [hd2]; kernel_rfl) (by rw [hd2]; kernel_rfl)) (by rw [hd2]; kernel_rfl) (by rw [hd2]; kernel_rfl) ((hb.to_prod s1).to_sum s2 s3) hlb)) s6 s7
   ·exact PX.or_of (PX.not_of (PX.sum (ha.to_prod (by rw [hd2]; kernel_rfl)) (PX.add (by rw [hd2]; kernel_rfl) (hb.to_prod s1) hlb (PX.sumL_stop s2 s3))) na s4 s5) s6 s7
   ·exact PX.or_of (PX.not_of (PX.sum (ha.to_prod (by rw [hd2]; kernel_rfl)) (PX.sub (by rw [hd2]; kernel_rfl) (by rw [hd2]; kernel_rfl) (hb.to_prod s1) hlb (PX.sumL_stop s2 s3))) na s4 s5) s6 s7
   exact PX.or_of (PX.not_of (PX.to_sum (PX.prod ha (PX.mul (by rw [hd2]; kernel_rfl) hb hlb (PX.prodL_stop s1))) s2 s3) na s4 s5) s6 s7
  have h4 := PX.prim_par hd' key hd4
  rw [show p + (Ex.bin k a b).tkl.length = p + 1 + a.tkl.length + 1 + b.tkl.length + 1 by rw [Ex.tkl]; simp; omega, Ex.opl, ← List.append_assoc, ← List.append_assoc]
  exact h4
theorem exprP_of {e : Ex} (h : e.good) {l : List Tk} {p : Nat} {r : List Tk} (hd : l.drop p = e.tkl ++ r) (hs : stopT r = true) (hl : e.opl.length ≤ 40) (hp : p ≤ l.length) : exprP l p = .ok e.opl (p + e.tkl.length) e.opl := by
 have h1 := prim_ok e h hd (ops := []) (by simpa using hl)
 have h2 := PX.all h1 (first_at h hd) (by rw [drop_app hd]; exact hs)
 unfold exprP
 rw [h2.done (exP_ns _ _ _ _ hp (by simp only [rk]; omega)), bind_ok]; rfl
theorem zero_no {v : Vl} (h : zeroV v = true) : v = noVl := by
 obtain ⟨k, n, s⟩ := v
 unfold zeroV at h
 simp only [Bool.and_eq_true, beq_iff_eq] at h
 obtain ⟨rfl, rfl, h3⟩ := h
 have := eqS_iff.1 (show eqS s ⟨#[]⟩ = true by unfold eqS; rw [h3]; simp)
 rw [this]; rfl
theorem opErr_form {h : Int} {o : OpL} (he : opErr h o = 0) : (o.k ≠ 1 → o.v = noVl) ∧ (o.k ≠ 2 → o.nm = ⟨#[]⟩) ∧ (o.k = 2 → nameF o.nm = 0) := by
 unfold opErr at he
 split at he
 ·cases he
 split at he
 ·exact absurd he (by assumption)
 split at he
 ·cases he
 split at he
 ·rename_i h4; exact absurd he h4.2
 rename_i h3 h4
 simp only [Bool.or_eq_true, Bool.and_eq_true, bne_iff_ne, ne_eq, Bool.not_eq_true', not_or, not_and] at h3
 refine ⟨fun hk => zero_no (by simpa using h3.1 hk), fun hk => eqS_iff.1 (by have := h3.2 hk; unfold eqS; simpa using this), fun hk => ?_⟩
 by_cases hn : nameF o.nm = 0
 ·exact hn
 exact absurd ⟨hk, hn⟩ h4
theorem snoc_of {α : Type} {st : List α} (h : 0 < st.length) : ∃ s0 e, st = s0 ++ [e] :=
 ⟨st.dropLast, st.getLast (List.ne_nil_of_length_pos h), (List.dropLast_concat_getLast (List.ne_nil_of_length_pos h)).symm⟩
theorem step1 (s0 : List (List Tk)) (a : List Tk) {o : OpL} (hp : popsF o.k = 1) : stepO (s0 ++ [a]) o = s0 ++ [tokO o a []] := by
 have e1 : lowO (s0 ++ [a]) o = s0.length := by unfold lowO; rw [hp, List.length_append]; rfl
 unfold stepO
 rw [e1, List.take_left' rfl, List.getD_eq_getElem?_getD, List.getElem?_append_right (Nat.le_refl _), List.getD_eq_getElem?_getD, List.getElem?_append_right (by omega), Nat.sub_self, show s0.length + 1 - s0.length = 1 by omega]; rfl
theorem step2 (s0 : List (List Tk)) (a b : List Tk) {o : OpL} (hp : popsF o.k = 2) : stepO (s0 ++ [a, b]) o = s0 ++ [tokO o a b] := by
 have e1 : lowO (s0 ++ [a, b]) o = s0.length := by unfold lowO; rw [hp, List.length_append]; rfl
 unfold stepO
 rw [e1, List.take_left' rfl, List.getD_eq_getElem?_getD, List.getElem?_append_right (Nat.le_refl _), List.getD_eq_getElem?_getD, List.getElem?_append_right (by omega), Nat.sub_self, show s0.length + 1 - s0.length = 1 by omega]; rfl
theorem step0 (s0 : List (List Tk)) {o : OpL} (hp : popsF o.k = 0) (t : List Tk) (ht : ∀ a b, tokO o a b = t) : stepO s0 o = s0 ++ [t] := by
 have e1 : lowO s0 o = s0.length := by unfold lowO; rw [hp]; rfl
 unfold stepO
 rw [e1, List.take_length, ht]
theorem stack_ok : ∀ (l : List OpL) (st : List Ex), (∀ e ∈ st, e.good) → exprL (st.length : Int) l = 0 → ∃ e : Ex, e.good ∧ st.flatMap Ex.opl ++ l = e.opl ∧ l.foldl stepO (st.map Ex.tkl) = [e.tkl]
  | [], st, hg, he => by
    rw [exprL] at he
    have h1 : st.length = 1 := by (split at he; omega; cases he)
    obtain ⟨s0, e, rfl⟩ := snoc_of (st := st) (by omega)
    have : s0 = [] := List.eq_nil_of_length_eq_zero (by simpa using h1)
    subst this
    exact ⟨e, hg e (by simp), by simp, rfl⟩
  | o :: r, st, hg, he => by
    have hop : opErr (st.length : Int) o = 0 := exprL_0 (l := o :: r) (i := 0) (by simp) he
    obtain ⟨k1, k11, hl, hp⟩ := opErr_0 hop
    obtain ⟨f1, f2, f3⟩ := opErr_form hop
    rw [exprL, if_pos hop] at he
    obtain ⟨k, v, nm⟩ := o
    simp only at k1 k11 hl hp f1 f2 f3 he
    have fin : ∀ (s0 : List Ex) (e : Ex), (∀ x ∈ s0, x.good) → e.good → (s0.length : Int) + 1 = (st.length : Int) + (1 - popsF k) → st.flatMap Ex.opl ++ [⟨k, v, nm⟩] = (s0 ++ [e]).flatMap Ex.opl → stepO (st.map Ex.tkl) ⟨k, v, nm⟩ = (s0 ++ [e]).map Ex.tkl →
        ∃ e : Ex, e.good ∧ st.flatMap Ex.opl ++ (⟨k, v, nm⟩ :: r) = e.opl ∧ (⟨k, v, nm⟩ :: r).foldl stepO (st.map Ex.tkl) = [e.tkl] := fun s0 e g0 ge hl2 ho ht => by
      obtain ⟨e2, q1, q2, q3⟩ := stack_ok r (s0 ++ [e]) (fun x hx => (List.mem_append.1 hx).elim (g0 x) (fun h => by rw [List.mem_singleton.1 h]; exact ge)) (by rw [List.length_append]; simp only [List.length_cons, List.length_nil]; rw [show (((s0.length + (0 + 1) : Nat)) : Int) = (st.length : Int) + (1 - popsF k) by omega]; exact he)
      refine ⟨e2, q1, ?_, ?_⟩
      · rw [← q2, ← ho, List.append_assoc]; rfl
      rw [List.foldl_cons, ht]; exact q3
    by_cases h1 : k = 1
    · subst h1
      have e2 := f2 (by decide)
      subst e2
      exact fin st (.lit v) hg hl (by have : popsF 1 = 0 := by decide
                                      omega) (by rw [List.flatMap_append]; rfl) (by rw [step0 _ (show popsF 1 = 0 by decide) (showV v) (fun a b => by unfold tokO; rw [if_pos rfl]), List.map_append]; rfl)
    by_cases h2 : k = 2
    · subst h2
      have e1 := f1 (by decide)
      subst e1
      exact fin st (.col nm) hg (f3 rfl) (by have : popsF 2 = 0 := by decide
                                             omega) (by rw [List.flatMap_append]; rfl) (by rw [step0 _ (show popsF 2 = 0 by decide) [wordT nm] (fun a b => by unfold tokO; rw [if_neg (by show ¬ (2 : Int) = 1; decide), if_pos rfl]), List.map_append]; rfl)
    have e1 := f1 h1
    have e2 := f2 h2
    subst e1 e2
    by_cases h5 : k = 5
    · subst h5
      have hp1 : popsF 5 = 1 := by decide
      obtain ⟨s0, e, rfl⟩ := snoc_of (st := st) (by omega)
      refine fin s0 (.not e) (fun x hx => hg x (List.mem_append_left _ hx)) (hg e (by simp)) (by rw [List.length_append, hp1]; simp only [List.length_cons, List.length_nil]; omega) (by simp only [List.flatMap_append, List.flatMap_cons, List.flatMap_nil, List.append_nil, Ex.opl, List.append_assoc]; rfl) ?_
      rw [List.map_append, List.map_cons, List.map_nil, step1 _ _ hp1, List.map_append]
      unfold tokO
      rw [if_neg (by show ¬ (5 : Int) = 1; decide), if_neg (by show ¬ (5 : Int) = 2; decide), if_pos rfl]; rfl
    by_cases h11 : k = 11
    · subst h11
      have hp1 : popsF 11 = 1 := by decide
      obtain ⟨s0, e, rfl⟩ := snoc_of (st := st) (by omega)
      refine fin s0 (.isn e) (fun x hx => hg x (List.mem_append_left _ hx)) (hg e (by simp)) (by rw [List.length_append, hp1]; simp only [List.length_cons, List.length_nil]; omega) (by simp only [List.flatMap_append, List.flatMap_cons, List.flatMap_nil, List.append_nil, Ex.opl, List.append_assoc]; rfl) ?_
      rw [List.map_append, List.map_cons, List.map_nil, step1 _ _ hp1, List.map_append]
      unfold tokO
      rw [if_neg (by show ¬ (11 : Int) = 1; decide), if_neg (by show ¬ (11 : Int) = 2; decide), if_neg (by show ¬ (11 : Int) = 5; decide), if_pos rfl]; rfl
    have hp2 : popsF k = 2 := by unfold popsF; rw [if_neg (by omega), if_neg (by omega)]
    obtain ⟨s1, b, rfl⟩ := snoc_of (st := st) (by omega)
    rw [List.length_append] at hp
    simp only [List.length_cons, List.length_nil] at hp
    obtain ⟨s0, a, rfl⟩ := snoc_of (st := s1) (by omega)
    have e3 : s0 ++ [a] ++ [b] = s0 ++ [a, b] := by rw [List.append_assoc]; rfl
    refine fin s0 (.bin k a b) (fun x hx => hg x (List.mem_append_left _ (List.mem_append_left _ hx))) ⟨by omega, hg a (by simp), hg b (by simp)⟩ (by rw [List.length_append, List.length_append, hp2]; simp only [List.length_cons, List.length_nil]; omega) (by simp only [List.flatMap_append, List.flatMap_cons, List.flatMap_nil, List.append_nil, Ex.opl, List.append_assoc]; rfl) ?_
    rw [e3, List.map_append, List.map_cons, List.map_cons, List.map_nil, step2 _ _ _ hp2, List.map_append]
    unfold tokO
    rw [if_neg h1, if_neg h2, if_neg h5, if_neg h11]; rfl
theorem tree_of {l : List OpL} (h : exprL 0 l = 0) : ∃ e : Ex, e.good ∧ l = e.opl ∧ showO l = e.tkl := by
 obtain ⟨e, h1, h2, h3⟩ := stack_ok l [] (fun _ h => by cases h) h
 refine ⟨e, h1, h2, ?_⟩
 unfold showO
 rw [show l.foldl stepO [] = [e.tkl] from h3]; rfl

end Go.Proofs.YtjgekbmahhhokaaDoor.Pa

namespace Go.Proofs.YtjgekbmahhhokaaDoor.Pa
open Go.Proofs.Tryd
open Go.RowKit V Pk Go.Proofs.YtjgekbmahhhokaaDoor.Vl Go.Proofs.YtjgekbmahhhokaaDoor.Nm
variable {l : List Tk}
theorem where_of {w : List OpL} (h : w.length = 0 ∨ exprL 0 w = 0) (h40 : w.length ≤ 40) {p : Nat} {r : List Tk} (ops : List OpL) (hd : l.drop p = showW w ++ r) (hs : stopT r = true) (hw : isR r 1 ⟨#[87, 72, 69, 82, 69]⟩ = false) : ∃ q os, whereP l p ops = .ok w q os ∧ l.drop q = r := by
 by_cases h0 : w.length = 0
 ·have hw0 : w = [] := List.eq_nil_of_length_eq_zero h0
  subst hw0
  have e : showW [] = [] := if_pos rfl
  rw [e] at hd
  refine ⟨p, ops, ?_, hd⟩
  unfold whereP
  rw [if_neg (by rw [isQ_R, hd]; show ¬ isR r 1 _ = true; rw [hw]; exact Bool.false_ne_true)]
 obtain ⟨e, ge, he, ht⟩ := tree_of (h.resolve_left h0)
 have e1 : showW w = wordT ⟨#[87, 72, 69, 82, 69]⟩ :: e.tkl := by unfold showW; rw [if_neg h0, ht]; rfl
 rw [e1] at hd
 obtain ⟨hp, -, hd1⟩ := drop_at hd
 have h1 := exprP_of ge hd1 hs (by rw [← he]; exact h40) hp
 refine ⟨p + 1 + e.tkl.length, e.opl, ?_, drop_app hd1⟩
 unfold whereP
 rw [if_pos (yq_w hd (by decide +kernel)), h1, he]
def sepT : List (List Tk) → List Tk
 | [] => []
 | [t] => t
 | t :: u :: r => t ++ markT ⟨#[44]⟩ :: sepT (u :: r)
theorem sep_snoc (t : List Tk) : ∀ (a : List (List Tk)), a ≠ [] → sepT (a ++ [t]) = sepT a ++ markT ⟨#[44]⟩ :: t
 | [], h => absurd rfl h
 | [x], _ => rfl
 | x :: y :: r, _ => by
  have := sep_snoc t (y :: r) (by simp)
  show x ++ markT _ :: sepT ((y :: r) ++ [t]) = (x ++ markT _ :: sepT (y :: r)) ++ _
  rw [this]; simp
theorem take_snoc {α : Type} {ts : List α} {i : Nat} (hi : i < ts.length) : ts.take (i + 1) = ts.take i ++ [ts[i]] := List.take_succ_eq_append_getElem hi
theorem pre_sep (ts : List (List Tk)) : ∀ i, i ≤ ts.length → preL ts i = markT ⟨#[40]⟩ :: sepT (ts.take i)
 | 0, _ => rfl
 | i + 1, h => by
  rw [preL, pre_sep ts i (by omega), getD_at (by omega), take_snoc (by omega)]
  by_cases h0 : i = 0
  ·subst h0; rfl
  rw [if_pos (by omega), sep_snoc _ _ (by intro e; have := congrArg List.length e; simp only [List.length_take, List.length_nil] at this; omega)]
  simp
theorem list_sep (ts : List (List Tk)) : listL ts = markT ⟨#[40]⟩ :: (sepT ts ++ [markT ⟨#[41]⟩]) := by
 unfold listL
 rw [pre_sep ts ts.length (Nat.le_refl _), List.take_length]; rfl
theorem preN_sep (ns : List ByteArray) : ∀ i, i ≤ ns.length → preN ns i = sepT ((ns.take i).map fun s => [wordT s])
 | 0, _ => rfl
 | i + 1, h => by
  rw [preN, preN_sep ns i (by omega), getD_at (by omega), take_snoc (by omega), List.map_append]
  by_cases h0 : i = 0
  ·subst h0; rfl
  rw [if_pos (by omega), List.map_cons, List.map_nil, sep_snoc _ _ (by intro e; have := congrArg List.length e; simp only [List.length_map, List.length_take, List.length_nil] at this; omega)]
  simp
theorem kind_of {p : Nat} {k : Int} {r : List Tk} (h1 : 1 ≤ k) (h3 : k ≤ 3) (hd : l.drop p = wordT (typeS k) :: r) : kindP l p = k := by
 have hk : k = 1 ∨ k = 2 ∨ k = 3 := by omega
 unfold kindP
 rcases hk with rfl | rfl | rfl
 ·rw [if_neg (nq_w hd (by decide +kernel)), if_neg (nq_w hd (by decide +kernel)), if_pos (yq_w hd (by decide +kernel))]
 ·rw [if_neg (nq_w hd (by decide +kernel)), if_pos (yq_w hd (by decide +kernel))]
 rw [if_pos (yq_w hd (by decide +kernel))]
theorem col_inv {pre : List ColL} {c : ColL} {r : List ColL} (h : colsA pre (c :: r) = 0) : nameF c.n = 0 ∧ (1 ≤ c.k ∧ c.k ≤ 3) ∧ ¬ (pre.any fun d => eqS d.n c.n) = true ∧ colsA (pre ++ [c]) r = 0 := by
 have h : (if colF pre c ≠ 0 then colF pre c else colsA (pre ++ [c]) r) = 0 := h
 split at h
 ·exact absurd h (by assumption)
 rename_i h0
 have h0 : colF pre c = 0 := by omega
 unfold colF at h0
 split at h0
 ·exact absurd h0 (by assumption)
 split at h0
 ·cases h0
 split at h0
 ·cases h0
 rename_i q1 q2 q3
 exact ⟨by omega, by omega, q3, h⟩
theorem colsP_of : ∀ (cs out : List ColL) (n p : Nat) (r : List Tk) (ops : List OpL), cs ≠ [] → l.drop p = sepT (cs.map colT) ++ markT ⟨#[41]⟩ :: r → colsA out cs = 0 → out.length + cs.length ≤ 6 → cs.length ≤ n → ∃ q, colsP l n out p ops = .ok (out ++ cs) q ops ∧ l.drop q = r
 | [], _, _, _, _, _, h, _, _, _, _ => absurd rfl h
 | c :: rs, out, 0, p, r, ops, _, _, _, _, hn => by simp at hn
 | c :: rs, out, n + 1, p, r, ops, _, hd, hc, h6, hn => by
  obtain ⟨hnm, ⟨k1, k3⟩, hany, hc2⟩ := col_inv hc
  simp only [List.length_cons] at h6 hn
  have hsep : ∃ u, l.drop p = wordT c.n :: wordT (typeS c.k) :: u ∧ ((rs = [] ∧ u = markT ⟨#[41]⟩ :: r) ∨ (rs ≠ [] ∧ u = markT ⟨#[44]⟩ :: (sepT (rs.map colT) ++ markT ⟨#[41]⟩ :: r))) := by
   cases rs with
   | nil => exact ⟨_, hd, .inl ⟨rfl, rfl⟩⟩
   | cons c2 r2 => exact ⟨_, by rw [hd]; simp [sepT, colT], .inr ⟨by simp, rfl⟩⟩
  obtain ⟨u, hd0, hu⟩ := hsep
  obtain ⟨-, -, hd1⟩ := drop_at hd0
  obtain ⟨-, -, hd2⟩ := drop_at hd1
  rw [colsP, if_neg (by omega), name_of ops hnm hd0, bind_ok, if_neg hany, kind_of k1 k3 hd1, if_neg (by omega)]
  rcases hu with ⟨rfl, rfl⟩ | ⟨hne, rfl⟩
  ·obtain ⟨-, -, hd3⟩ := drop_at hd2
   refine ⟨p + 1 + 1 + 1, ?_, hd3⟩
   rw [if_neg (nq_m hd2 (by decide +kernel)), mark_of ops hd2, bind_ok]
  obtain ⟨-, -, hd3⟩ := drop_at hd2
  obtain ⟨q, e1, e2⟩ := colsP_of rs (out ++ [c]) n (p + 1 + 2) r ops hne hd3 hc2 (by rw [List.length_append]; simp only [List.length_cons, List.length_nil]; omega) (by omega)
  refine ⟨q, ?_, e2⟩
  rw [if_pos (yq_m hd2)]
  rw [List.append_assoc] at e1
  exact e1
theorem rowP_of : ∀ (vs out : List Vl) (n p : Nat) (r : List Tk) (ops : List OpL), vs ≠ [] → l.drop p = sepT (vs.map showV) ++ markT ⟨#[41]⟩ :: r → (∀ v ∈ vs, litF v = 0) → out.length + vs.length ≤ 6 → vs.length ≤ n → ∃ q, rowP l n out p ops = .ok (out ++ vs) q ops ∧ l.drop q = r
 | [], _, _, _, _, _, h, _, _, _, _ => absurd rfl h
 | c :: rs, out, 0, p, r, ops, _, _, _, _, hn => by simp at hn
 | c :: rs, out, n + 1, p, r, ops, _, hd, hc, h6, hn => by
  have hl := hc c List.mem_cons_self
  simp only [List.length_cons] at h6 hn
  have hsep : ∃ u, l.drop p = showV c ++ u ∧ ((rs = [] ∧ u = markT ⟨#[41]⟩ :: r) ∨ (rs ≠ [] ∧ u = markT ⟨#[44]⟩ :: (sepT (rs.map showV) ++ markT ⟨#[41]⟩ :: r))) := by
   cases rs with
   | nil => exact ⟨_, hd, .inl ⟨rfl, rfl⟩⟩
   | cons c2 r2 => exact ⟨_, by rw [hd]; simp [sepT], .inr ⟨by simp, rfl⟩⟩
  obtain ⟨u, hd0, hu⟩ := hsep
  have hd2 := drop_app hd0
  rw [rowP, if_neg (by omega), lit_of hl ops hd0, bind_ok, if_neg (show ¬ true = false by decide)]
  rcases hu with ⟨rfl, rfl⟩ | ⟨hne, rfl⟩
  ·obtain ⟨-, -, hd3⟩ := drop_at hd2
   refine ⟨_, ?_, hd3⟩
   rw [if_neg (nq_m hd2 (by decide +kernel)), mark_of ops hd2, bind_ok]
  obtain ⟨-, -, hd3⟩ := drop_at hd2
  obtain ⟨q, e1, e2⟩ := rowP_of rs (out ++ [c]) n _ r ops hne hd3 (fun v hv => hc v (List.mem_cons_of_mem _ hv)) (by rw [List.length_append]; simp only [List.length_cons, List.length_nil]; omega) (by omega)
  refine ⟨q, ?_, e2⟩
  rw [if_pos (yq_m hd2)]
  rw [List.append_assoc] at e1
  exact e1
theorem namesP_of : ∀ (ns out : List ByteArray) (n p : Nat) (r : List Tk) (ops : List OpL), ns ≠ [] → l.drop p = sepT (ns.map fun s => [wordT s]) ++ r → isR r 4 ⟨#[44]⟩ = false → (∀ s ∈ ns, nameF s = 0) → out.length + ns.length ≤ 6 → ns.length ≤ n → ∃ q, namesP l n out p ops = .ok (out ++ ns) q ops ∧ l.drop q = r
 | [], _, _, _, _, _, h, _, _, _, _, _ => absurd rfl h
 | c :: rs, out, 0, p, r, ops, _, _, _, _, _, hn => by simp at hn
 | c :: rs, out, n + 1, p, r, ops, _, hd, hr, hc, h6, hn => by
  have hl := hc c List.mem_cons_self
  simp only [List.length_cons] at h6 hn
  have hsep : ∃ u, l.drop p = wordT c :: u ∧ ((rs = [] ∧ u = r) ∨ (rs ≠ [] ∧ u = markT ⟨#[44]⟩ :: (sepT (rs.map fun s => [wordT s]) ++ r))) := by
   cases rs with
   | nil => exact ⟨_, hd, .inl ⟨rfl, rfl⟩⟩
   | cons c2 r2 => exact ⟨_, by rw [hd]; simp [sepT], .inr ⟨by simp, rfl⟩⟩
  obtain ⟨u, hd0, hu⟩ := hsep
  obtain ⟨-, -, hd2⟩ := drop_at hd0
  rw [namesP, if_neg (by omega), name_of ops hl hd0, bind_ok]
  rcases hu with ⟨rfl, rfl⟩ | ⟨hne, rfl⟩
  ·refine ⟨_, ?_, hd2⟩
   rw [if_neg (by rw [isQ_R, hd2, hr]; exact Bool.false_ne_true)]
  obtain ⟨-, -, hd3⟩ := drop_at hd2
  obtain ⟨q, e1, e2⟩ := namesP_of rs (out ++ [c]) n _ r ops hne hd3 hr (fun v hv => hc v (List.mem_cons_of_mem _ hv)) (by rw [List.length_append]; simp only [List.length_cons, List.length_nil]; omega) (by omega)
  refine ⟨q, ?_, e2⟩
  rw [if_pos (yq_m hd2)]
  rw [List.append_assoc] at e1
  exact e1
theorem len0 {α : Type} {a : List α} (h : (a.length : Int) = 0) : a = [] := List.eq_nil_of_length_eq_zero (by omega)
theorem eq_has {s : StL} (h : bareF s (hasS s) = true) : s = hasS s := by
 obtain ⟨kind, table, cols, row, names, count, wher, order, down, limit, set, to⟩ := s
 by_cases h1 : kind = 1
 ·have e : hasS ⟨kind, table, cols, row, names, count, wher, order, down, limit, set, to⟩ = { st0 with kind := kind, table := tabS ⟨kind, table, cols, row, names, count, wher, order, down, limit, set, to⟩, cols := cols } := by unfold hasS; rw [if_pos h1]
  rw [e] at h ⊢
  unfold bareF at h
  simp only [Bool.and_eq_true, beq_iff_eq, eqS_iff] at h
  obtain ⟨a1, a2, a3, a4, a5, a6, a7, a8, a9, a10, a11⟩ := h
  have ba3 := len0 a3; subst ba3
  have ba4 := len0 a4; subst ba4
  have ba6 := len0 a6; subst ba6
  have ba11 := len0 a11; subst ba11
  have ba5 : count = st0.count := a5; subst ba5
  have ba7 : order = st0.order := a7; subst ba7
  have ba8 : down = st0.down := a8; subst ba8
  have ba9 : limit = st0.limit := a9; subst ba9
  have ba10 : set = st0.set := a10; subst ba10
  have ba1 : table = tabS _ := a1
  show (⟨kind, table, _, _, _, _, _, _, _, _, _, _⟩ : StL) = ⟨kind, tabS _, _, _, _, _, _, _, _, _, _, _⟩
  rw [← ba1]; rfl
 by_cases h3 : kind = 3
 ·have e : hasS ⟨kind, table, cols, row, names, count, wher, order, down, limit, set, to⟩ = { st0 with kind := kind, table := tabS ⟨kind, table, cols, row, names, count, wher, order, down, limit, set, to⟩, row := row } := by unfold hasS; rw [if_neg h1, if_pos h3]
  rw [e] at h ⊢
  unfold bareF at h
  simp only [Bool.and_eq_true, beq_iff_eq, eqS_iff] at h
  obtain ⟨a1, a2, a3, a4, a5, a6, a7, a8, a9, a10, a11⟩ := h
  have ba2 := len0 a2; subst ba2
  have ba4 := len0 a4; subst ba4
  have ba6 := len0 a6; subst ba6
  have ba11 := len0 a11; subst ba11
  have ba5 : count = st0.count := a5; subst ba5
  have ba7 : order = st0.order := a7; subst ba7
  have ba8 : down = st0.down := a8; subst ba8
  have ba9 : limit = st0.limit := a9; subst ba9
  have ba10 : set = st0.set := a10; subst ba10
  have ba1 : table = tabS _ := a1
  show (⟨kind, table, _, _, _, _, _, _, _, _, _, _⟩ : StL) = ⟨kind, tabS _, _, _, _, _, _, _, _, _, _, _⟩
  rw [← ba1]; rfl
 by_cases h4 : kind = 4
 ·have e : hasS ⟨kind, table, cols, row, names, count, wher, order, down, limit, set, to⟩ = { st0 with kind := kind, table := tabS ⟨kind, table, cols, row, names, count, wher, order, down, limit, set, to⟩, names := names, count := count, wher := wher, order := order, down := down, limit := limit } := by unfold hasS; rw [if_neg h1, if_neg h3, if_pos h4]
  rw [e] at h ⊢
  unfold bareF at h
  simp only [Bool.and_eq_true, beq_iff_eq, eqS_iff] at h
  obtain ⟨a1, a2, a3, a4, a5, a6, a7, a8, a9, a10, a11⟩ := h
  have ba2 := len0 a2; subst ba2
  have ba3 := len0 a3; subst ba3
  have ba11 := len0 a11; subst ba11
  have ba10 : set = st0.set := a10; subst ba10
  have ba1 : table = tabS _ := a1
  show (⟨kind, table, _, _, _, _, _, _, _, _, _, _⟩ : StL) = ⟨kind, tabS _, _, _, _, _, _, _, _, _, _, _⟩
  rw [← ba1]; rfl
 by_cases h5 : kind = 5
 ·have e : hasS ⟨kind, table, cols, row, names, count, wher, order, down, limit, set, to⟩ = { st0 with kind := kind, table := tabS ⟨kind, table, cols, row, names, count, wher, order, down, limit, set, to⟩, set := set, to := to, wher := wher } := by unfold hasS; rw [if_neg h1, if_neg h3, if_neg h4, if_pos h5]
  rw [e] at h ⊢
  unfold bareF at h
  simp only [Bool.and_eq_true, beq_iff_eq, eqS_iff] at h
  obtain ⟨a1, a2, a3, a4, a5, a6, a7, a8, a9, a10, a11⟩ := h
  have ba2 := len0 a2; subst ba2
  have ba3 := len0 a3; subst ba3
  have ba4 := len0 a4; subst ba4
  have ba5 : count = st0.count := a5; subst ba5
  have ba7 : order = st0.order := a7; subst ba7
  have ba8 : down = st0.down := a8; subst ba8
  have ba9 : limit = st0.limit := a9; subst ba9
  have ba1 : table = tabS _ := a1
  show (⟨kind, table, _, _, _, _, _, _, _, _, _, _⟩ : StL) = ⟨kind, tabS _, _, _, _, _, _, _, _, _, _, _⟩
  rw [← ba1]; rfl
 by_cases h6 : kind = 6
 ·have e : hasS ⟨kind, table, cols, row, names, count, wher, order, down, limit, set, to⟩ = { st0 with kind := kind, table := tabS ⟨kind, table, cols, row, names, count, wher, order, down, limit, set, to⟩, wher := wher } := by unfold hasS; rw [if_neg h1, if_neg h3, if_neg h4, if_neg h5, if_pos h6]
  rw [e] at h ⊢
  unfold bareF at h
  simp only [Bool.and_eq_true, beq_iff_eq, eqS_iff] at h
  obtain ⟨a1, a2, a3, a4, a5, a6, a7, a8, a9, a10, a11⟩ := h
  have ba2 := len0 a2; subst ba2
  have ba3 := len0 a3; subst ba3
  have ba4 := len0 a4; subst ba4
  have ba11 := len0 a11; subst ba11
  have ba5 : count = st0.count := a5; subst ba5
  have ba7 : order = st0.order := a7; subst ba7
  have ba8 : down = st0.down := a8; subst ba8
  have ba9 : limit = st0.limit := a9; subst ba9
  have ba10 : set = st0.set := a10; subst ba10
  have ba1 : table = tabS _ := a1
  show (⟨kind, table, _, _, _, _, _, _, _, _, _, _⟩ : StL) = ⟨kind, tabS _, _, _, _, _, _, _, _, _, _, _⟩
  rw [← ba1]; rfl
 have e : hasS ⟨kind, table, cols, row, names, count, wher, order, down, limit, set, to⟩ = { st0 with kind := kind, table := tabS ⟨kind, table, cols, row, names, count, wher, order, down, limit, set, to⟩ } := by unfold hasS; rw [if_neg h1, if_neg h3, if_neg h4, if_neg h5, if_neg h6]
 rw [e] at h ⊢
 unfold bareF at h
 simp only [Bool.and_eq_true, beq_iff_eq, eqS_iff] at h
 obtain ⟨a1, a2, a3, a4, a5, a6, a7, a8, a9, a10, a11⟩ := h
 have ba2 := len0 a2; subst ba2
 have ba3 := len0 a3; subst ba3
 have ba4 := len0 a4; subst ba4
 have ba6 := len0 a6; subst ba6
 have ba11 := len0 a11; subst ba11
 have ba5 : count = st0.count := a5; subst ba5
 have ba7 : order = st0.order := a7; subst ba7
 have ba8 : down = st0.down := a8; subst ba8
 have ba9 : limit = st0.limit := a9; subst ba9
 have ba10 : set = st0.set := a10; subst ba10
 have ba1 : table = tabS _ := a1
 show (⟨kind, table, _, _, _, _, _, _, _, _, _, _⟩ : StL) = ⟨kind, tabS _, _, _, _, _, _, _, _, _, _, _⟩
 rw [← ba1]; rfl

end Go.Proofs.YtjgekbmahhhokaaDoor.Pa

namespace Go.Proofs.YtjgekbmahhhokaaDoor.Pa
open Go.Proofs.Tryd
open Go.RowKit V Pk Go.Proofs.YtjgekbmahhhokaaDoor.Vl Go.Proofs.YtjgekbmahhhokaaDoor.Nm
variable {l : List Tk}
def TailOk (r : List Tk) : Prop := r = [] ∨ r = [markT ⟨#[41]⟩]
theorem tail_stop {r : List Tk} (h : TailOk r) : stopT r = true ∧ isR r 1 ⟨#[87, 72, 69, 82, 69]⟩ = false ∧ isR r 1 ⟨#[79, 82, 68, 69, 82]⟩ = false ∧ isR r 1 ⟨#[76, 73, 77, 73, 84]⟩ = false ∧ isR r 1 ⟨#[68, 69, 83, 67]⟩ = false := by
 rcases h with rfl | rfl
 ·exact ⟨by kernel_rfl, by kernel_rfl, by kernel_rfl, by kernel_rfl, by kernel_rfl⟩
 exact ⟨by kernel_rfl, by kernel_rfl, by kernel_rfl, by kernel_rfl, by kernel_rfl⟩
theorem stopW {r : List Tk} (h : stopT r = true) (w : List OpL) : stopT (showW w ++ r) = true := by
 unfold showW; split
 ·exact h
 show stopT (wordT _ :: _) = true; kernel_rfl
theorem head_of {s : StL} (hc : s.count = true → s.names = []) (hn : ∀ x ∈ s.names, nameF x = 0) (h6 : s.names.length ≤ 6) {p : Nat} {r : List Tk} (ops : List OpL) (hd : l.drop p = headT s ++ (wordT ⟨#[70, 82, 79, 77]⟩ :: r)) : ∃ q, headP l p ops = .ok (s.names, s.count) q ops ∧ l.drop q = wordT ⟨#[70, 82, 79, 77]⟩ :: r := by
 unfold headT at hd
 by_cases h1 : s.count = true
 ·rw [if_pos h1] at hd
  have hd0 : l.drop p = wordT ⟨#[67, 79, 85, 78, 84]⟩ :: markT ⟨#[40]⟩ :: markT ⟨#[42]⟩ :: markT ⟨#[41]⟩ :: (wordT ⟨#[70, 82, 79, 77]⟩ :: r) := hd
  obtain ⟨-, -, hd1⟩ := drop_at hd0
  obtain ⟨-, -, hd2⟩ := drop_at hd1
  obtain ⟨-, -, hd3⟩ := drop_at hd2
  obtain ⟨-, -, hd4⟩ := drop_at hd3
  refine ⟨_, ?_, hd4⟩
  unfold headP
  rw [if_neg (nq_k hd0 rfl), if_pos (yq_w hd0 (by decide +kernel)), mark_of ops hd1, bind_ok, mark_of ops hd2, bind_ok, mark_of ops hd3, bind_ok, hc h1, h1]
 rw [if_neg h1] at hd
 have hcf : s.count = false := by simpa using h1
 by_cases h2 : s.names.length = 0
 ·rw [if_pos h2] at hd
  obtain ⟨-, -, hd1⟩ := drop_at (show l.drop p = markT ⟨#[42]⟩ :: (wordT ⟨#[70, 82, 79, 77]⟩ :: r) from hd)
  refine ⟨_, ?_, hd1⟩
  unfold headP
  rw [if_pos (yq_m (show l.drop p = markT ⟨#[42]⟩ :: (wordT ⟨#[70, 82, 79, 77]⟩ :: r) from hd)), List.eq_nil_of_length_eq_zero h2, hcf]
 rw [if_neg h2, preN_sep _ _ (Nat.le_refl _), List.take_length] at hd
 obtain ⟨n0, rs, hns⟩ : ∃ a b, s.names = a :: b := by
  cases hq : s.names with
  | nil => rw [hq] at h2; exact absurd rfl h2
  | cons a b => exact ⟨a, b, rfl⟩
 have hd0 : ∃ u, l.drop p = wordT n0 :: u := by
  rw [hns] at hd
  cases rs with
  | nil => exact ⟨_, hd⟩
  | cons c2 r2 => exact ⟨_, hd⟩
 obtain ⟨u, hd0⟩ := hd0
 have hn0 := hn n0 (by rw [hns]; exact List.mem_cons_self)
 obtain ⟨q, e1, e2⟩ := namesP_of s.names [] 8 p _ ops (by rw [hns]; simp) hd (isR_k rfl) hn (by simpa using h6) (by omega)
 refine ⟨q, ?_, e2⟩
 unfold headP
 rw [if_neg (nq_k hd0 rfl), if_neg (nq_w hd0 (kept_no hn0 (List.mem_of_getElem? (i := 7) rfl))), e1, bind_ok, hcf]; rfl
theorem lim_of {s S0 : StL} (hl : -1 ≤ s.limit) (h0 : S0.limit = -1) {p : Nat} {r : List Tk} (hr : TailOk r) (ops : List OpL) (hd : l.drop p = limT s ++ r) : ∃ q, limP l S0 p ops = .ok { S0 with limit := s.limit } q ops ∧ l.drop q = r := by
 unfold limT at hd
 by_cases h : 0 ≤ s.limit
 ·rw [if_pos h] at hd
  have hd0 : l.drop p = wordT ⟨#[76, 73, 77, 73, 84]⟩ :: ⟨2, ⟨#[]⟩, s.limit⟩ :: r := hd
  obtain ⟨-, -, hd1⟩ := drop_at hd0
  obtain ⟨hp, e1, hd2⟩ := drop_at hd1
  refine ⟨p + 2, ?_, hd2⟩
  rw [lim_1 (yq_w hd0 (by decide +kernel)) hp (by rw [e1]), e1]
 rw [if_neg h] at hd
 refine ⟨p, ?_, hd⟩
 rw [lim_3 (by rw [isQ_R, hd]; exact (tail_stop hr).2.2.2.1), show s.limit = S0.limit by omega]
theorem limT_R {s : StL} {r : List Tk} (hr : TailOk r) : isR (limT s ++ r) 1 ⟨#[79, 82, 68, 69, 82]⟩ = false ∧ isR (limT s ++ r) 1 ⟨#[68, 69, 83, 67]⟩ = false ∧ isR (limT s ++ r) 1 ⟨#[87, 72, 69, 82, 69]⟩ = false ∧ stopT (limT s ++ r) = true := by
 obtain ⟨h1, h2, h3, h4, h5⟩ := tail_stop hr
 unfold limT; split
 ·exact ⟨by show isR (wordT _ :: _) _ _ = false; kernel_rfl, by show isR (wordT _ :: _) _ _ = false; kernel_rfl, by show isR (wordT _ :: _) _ _ = false; kernel_rfl, by show stopT (wordT _ :: _) = true; kernel_rfl⟩
 exact ⟨h3, h5, h2, h1⟩
theorem ord_of {s S0 : StL} (ho : ¬ eqS s.order ⟨#[]⟩ = true → nameF s.order = 0) (hdn : eqS s.order ⟨#[]⟩ = true → s.down = false) (h0 : S0.order = ⟨#[]⟩) (h00 : S0.down = false) {p : Nat} {r : List Tk} (hr : TailOk r) (ops : List OpL) (hd : l.drop p = ordT s ++ (limT s ++ r)) : ∃ q, ordP l S0 p ops = .ok { S0 with order := s.order, down := s.down } q ops ∧ l.drop q = limT s ++ r := by
 obtain ⟨r1, r2, -, -⟩ := limT_R (s := s) hr
 unfold ordT at hd
 by_cases h : eqS s.order ⟨#[]⟩ = true
 ·rw [if_pos h] at hd
  refine ⟨p, ?_, hd⟩
  unfold ordP
  rw [if_neg (by rw [isQ_R, hd]; show ¬ isR (limT s ++ r) _ _ = true; rw [r1]; exact Bool.false_ne_true), hdn h, eqS_iff.1 h, ← h0, ← h00]
 rw [if_neg h] at hd
 have hd0 : l.drop p = wordT ⟨#[79, 82, 68, 69, 82]⟩ :: wordT ⟨#[66, 89]⟩ :: wordT s.order :: ((if s.down = true then [wordT ⟨#[68, 69, 83, 67]⟩] else []) ++ (limT s ++ r)) := by rw [hd]; simp
 obtain ⟨-, -, hd1⟩ := drop_at hd0
 obtain ⟨-, -, hd2⟩ := drop_at hd1
 obtain ⟨-, -, hd3⟩ := drop_at hd2
 by_cases h5 : s.down = true
 ·rw [if_pos h5] at hd3
  obtain ⟨-, -, hd4⟩ := drop_at (show l.drop (p + 1 + 1 + 1) = wordT ⟨#[68, 69, 83, 67]⟩ :: (limT s ++ r) from hd3)
  refine ⟨_, ?_, hd4⟩
  unfold ordP
  rw [if_pos (yq_w hd0 (by decide +kernel)), must_of ops hd1, bind_ok, name_of ops (ho h) hd2, bind_ok, yq_w (show l.drop (p + 1 + 1 + 1) = wordT ⟨#[68, 69, 83, 67]⟩ :: (limT s ++ r) from hd3) (by decide +kernel), if_pos rfl, h5]
 rw [if_neg h5] at hd3
 have hq : isQ l (p + 1 + 1 + 1) 1 ⟨#[68, 69, 83, 67]⟩ = false := by rw [isQ_R, hd3]; exact r2
 refine ⟨p + 1 + 1 + 1, ?_, hd3⟩
 unfold ordP
 rw [if_pos (yq_w hd0 (by decide +kernel)), must_of ops hd1, bind_ok, name_of ops (ho h) hd2, bind_ok, hq, if_neg Bool.false_ne_true, show s.down = false by simpa using h5]
theorem ordT_R {s : StL} {r : List Tk} (hr : TailOk r) : isR (ordT s ++ (limT s ++ r)) 1 ⟨#[87, 72, 69, 82, 69]⟩ = false ∧ stopT (ordT s ++ (limT s ++ r)) = true := by
 obtain ⟨-, -, r3, r4⟩ := limT_R (s := s) hr
 unfold ordT; split
 ·exact ⟨r3, r4⟩
 exact ⟨by show isR (wordT _ :: _) _ _ = false; kernel_rfl, by show stopT (wordT _ :: _) = true; kernel_rfl⟩
theorem st_of {s : StL} (hf : FinS s) (h1 : 1 ≤ s.kind) (h9 : s.kind ≤ 9) (hc : checkS s = 0) {r : List Tk} (hr : TailOk r) (hd : l.drop 0 = showS s ++ r) : ∃ q os, stP l 0 [] = .ok s q os ∧ l.drop q = r := by
 obtain ⟨he, hb, ht⟩ := err_0 hc
 have hs := sh_of hf h1 h9 hc
 have eqh := eq_has hb
 obtain ⟨t1, t2, t3, t4, t5⟩ := tail_stop hr
 have h40 := hf.ok.2.2.2.1
 by_cases h7 : s.kind < 7
 ·have htab : tabS s = s.table := if_pos h7
  have hnt := ht h7
  by_cases hk : s.kind = 1
  ·have e : hasS s = { st0 with kind := s.kind, table := tabS s, cols := s.cols } := by unfold hasS; rw [if_pos hk]
   have hE : s = { st0 with kind := s.kind, table := s.table, cols := s.cols } := eqh.trans (e.trans (by rw [htab]))
   rw [hk] at hE
   have hcf : colsF s.cols = 0 := by unfold errS at he; rw [if_pos hk] at he; exact he
   obtain ⟨⟨c1, c6⟩, -⟩ := cols_good hcf
   have hca : colsA [] s.cols = 0 := by unfold colsF at hcf; rw [if_neg (by omega)] at hcf; exact hcf
   have hd0 : l.drop 0 = wordT ⟨#[67, 82, 69, 65, 84, 69]⟩ :: wordT ⟨#[84, 65, 66, 76, 69]⟩ :: wordT s.table :: markT ⟨#[40]⟩ :: (sepT (s.cols.map colT) ++ (markT ⟨#[41]⟩ :: r)) := by
    rw [hd]; unfold showS; rw [if_pos hk, list_sep]; simp
   obtain ⟨-, -, hd1⟩ := drop_at hd0
   obtain ⟨-, -, hd2⟩ := drop_at hd1
   obtain ⟨-, -, hd3⟩ := drop_at hd2
   obtain ⟨-, -, hd4⟩ := drop_at hd3
   obtain ⟨q, e1, e2⟩ := colsP_of s.cols [] 8 _ r [] (by intro e; rw [e] at c1; simp at c1) hd4 hca (by simpa using c6) (by omega)
   refine ⟨q, [], ?_, e2⟩
   unfold stP
   rw [if_pos (yq_w hd0 (by decide +kernel)), must_of [] hd1, bind_ok, name_of [] hnt hd2, bind_ok]
   unfold colsB
   rw [mark_of [] hd3, bind_ok, e1, bind_ok]
   rw [List.nil_append, ← hE]
  by_cases hk3 : s.kind = 3
  ·have hk := hk3
   have e : hasS s = { st0 with kind := s.kind, table := tabS s, row := s.row } := by unfold hasS; rw [if_neg (by omega), if_pos hk]
   have hE : s = { st0 with kind := s.kind, table := s.table, row := s.row } := eqh.trans (e.trans (by rw [htab]))
   rw [hk] at hE
   have hcf : rowF s.row = 0 := by unfold errS at he; rw [if_neg (by omega), if_pos hk] at he; exact he
   unfold rowF at hcf
   split at hcf
   ·cases hcf
   rename_i c16
   have hd0 : l.drop 0 = wordT ⟨#[73, 78, 83, 69, 82, 84]⟩ :: wordT ⟨#[73, 78, 84, 79]⟩ :: wordT s.table :: wordT ⟨#[86, 65, 76, 85, 69, 83]⟩ :: markT ⟨#[40]⟩ :: (sepT (s.row.map showV) ++ (markT ⟨#[41]⟩ :: r)) := by
    rw [hd]; unfold showS; rw [if_neg (by omega), if_neg (by omega), if_pos hk, list_sep]; simp
   obtain ⟨-, -, hd1⟩ := drop_at hd0
   obtain ⟨-, -, hd2⟩ := drop_at hd1
   obtain ⟨-, -, hd3⟩ := drop_at hd2
   obtain ⟨-, -, hd4⟩ := drop_at hd3
   obtain ⟨-, -, hd5⟩ := drop_at hd4
   obtain ⟨q, e1, e2⟩ := rowP_of s.row [] 8 _ r [] (by intro e; rw [e] at c16; simp at c16) hd5 (first_0 hcf) (by simp; omega) (by omega)
   refine ⟨q, [], ?_, e2⟩
   unfold stP
   rw [if_neg (nq_w hd0 (by decide +kernel)), if_neg (nq_w hd0 (by decide +kernel)), if_pos (yq_w hd0 (by decide +kernel)), must_of [] hd1, bind_ok, name_of [] hnt hd2, bind_ok, must_of [] hd3, bind_ok]
   unfold rowB
   rw [mark_of [] hd4, bind_ok, e1, bind_ok]
   rw [List.nil_append, ← hE]
  by_cases hk4 : s.kind = 4
  ·have hk := hk4
   have e : hasS s = { st0 with kind := s.kind, table := tabS s, names := s.names, count := s.count, wher := s.wher, order := s.order, down := s.down, limit := s.limit } := by unfold hasS; rw [if_neg (by omega), if_neg (by omega), if_pos hk]
   have hE : s = { st0 with kind := s.kind, table := s.table, names := s.names, count := s.count, wher := s.wher, order := s.order, down := s.down, limit := s.limit } := eqh.trans (e.trans (by rw [htab]))
   rw [hk] at hE
   have hcf : pickF s = 0 := by unfold errS at he; rw [if_neg (by omega), if_neg (by omega), if_pos hk] at he; exact he
   unfold pickF at hcf
   split at hcf
   ·cases hcf
   split at hcf
   ·cases hcf
   split at hcf
   ·cases hcf
   split at hcf
   ·exact absurd hcf (by assumption)
   split at hcf
   ·exact absurd hcf (by assumption)
   rename_i n6 lim cn nn ww
   rw [not_or] at cn
   have hcn : s.count = true → s.names = [] := fun h => by
    cases hq : s.names with
    | nil => rfl
    | cons a b => exact absurd ⟨h, by rw [hq]; simp⟩ cn.1
   have hdn : eqS s.order ⟨#[]⟩ = true → s.down = false := fun h => by
    cases hq : s.down with
    | false => rfl
    | true => exact absurd ⟨hq, h⟩ cn.2
   have hord : ¬ eqS s.order ⟨#[]⟩ = true → nameF s.order = 0 := fun h => by rw [if_neg h] at hcf; exact hcf
   have hd0 : l.drop 0 = wordT ⟨#[83, 69, 76, 69, 67, 84]⟩ :: (headT s ++ (wordT ⟨#[70, 82, 79, 77]⟩ :: (wordT s.table :: (showW s.wher ++ (ordT s ++ (limT s ++ r)))))) := by
    rw [hd]; unfold showS; rw [if_neg (by omega), if_neg (by omega), if_neg (by omega), if_pos hk]; unfold showP; simp
   obtain ⟨-, -, hd1⟩ := drop_at hd0
   obtain ⟨q1, e1, hd2⟩ := head_of (s := s) hcn (first_0 (by omega)) (by omega) [] hd1
   obtain ⟨-, -, hd3⟩ := drop_at hd2
   obtain ⟨-, -, hd4⟩ := drop_at hd3
   obtain ⟨w1, w2⟩ := ordT_R (s := s) hr
   obtain ⟨q2, o2, e2, hd5⟩ := where_of (hs.w (.inl hk)) h40 [] hd4 w2 w1
   obtain ⟨q3, e3, hd6⟩ := ord_of (s := s) (S0 := { st0 with kind := 4, names := s.names, count := s.count, table := s.table, wher := s.wher }) hord hdn rfl rfl hr o2 hd5
   obtain ⟨q4, e4, hd7⟩ := lim_of (s := s) (S0 := { st0 with kind := 4, names := s.names, count := s.count, table := s.table, wher := s.wher, order := s.order, down := s.down }) (by omega) rfl hr o2 hd6
   refine ⟨q4, o2, ?_, hd7⟩
   unfold stP
   rw [if_neg (nq_w hd0 (by decide +kernel)), if_neg (nq_w hd0 (by decide +kernel)), if_neg (nq_w hd0 (by decide +kernel)), if_pos (yq_w hd0 (by decide +kernel))]
   unfold pickP
   rw [e1, bind_ok]
   unfold pickK
   rw [must_of [] hd2, bind_ok, name_of [] hnt hd3, bind_ok, e2, bind_ok]
   unfold tailP
   rw [e3, bind_ok, e4, ← hE]
  by_cases hk5 : s.kind = 5
  ·have hk := hk5
   have e : hasS s = { st0 with kind := s.kind, table := tabS s, set := s.set, to := s.to, wher := s.wher } := by unfold hasS; rw [if_neg (by omega), if_neg (by omega), if_neg (by omega), if_pos hk]
   have hE : s = { st0 with kind := s.kind, table := s.table, set := s.set, to := s.to, wher := s.wher } := eqh.trans (e.trans (by rw [htab]))
   rw [hk] at hE
   have hns : nameF s.set = 0 := by
    unfold errS at he; rw [if_neg (by omega), if_neg (by omega), if_neg (by omega), if_pos hk] at he
    split at he
    ·assumption
    exact he
   obtain ⟨ex, ge, hto, htk⟩ := tree_of (hs.t hk)
   have hd0 : l.drop 0 = wordT ⟨#[85, 80, 68, 65, 84, 69]⟩ :: wordT s.table :: wordT ⟨#[83, 69, 84]⟩ :: wordT s.set :: markT ⟨#[61]⟩ :: (ex.tkl ++ (showW s.wher ++ r)) := by
    rw [hd]; unfold showS; rw [if_neg (by omega), if_neg (by omega), if_neg (by omega), if_neg (by omega), if_pos hk, htk]; simp
   obtain ⟨-, -, hd1⟩ := drop_at hd0
   obtain ⟨-, -, hd2⟩ := drop_at hd1
   obtain ⟨-, -, hd3⟩ := drop_at hd2
   obtain ⟨hp4, -, hd4⟩ := drop_at hd3
   obtain ⟨hp5, -, hd5⟩ := drop_at hd4
   have h6 := exprP_of ge hd5 (stopW t1 _) (by rw [← hto]; exact hf.ok.2.2.2.2) hp5
   obtain ⟨q, os, e2, hd7⟩ := where_of (hs.w (.inr (.inl hk))) h40 ex.opl (drop_app hd5) t1 t2
   refine ⟨q, os, ?_, hd7⟩
   unfold stP
   rw [if_neg (nq_w hd0 (by decide +kernel)), if_neg (nq_w hd0 (by decide +kernel)), if_neg (nq_w hd0 (by decide +kernel)), if_neg (nq_w hd0 (by decide +kernel)), if_pos (yq_w hd0 (by decide +kernel)), name_of [] hnt hd1, bind_ok, must_of [] hd2, bind_ok, name_of [] hns hd3, bind_ok, mark_of [] hd4, bind_ok, h6, bind_ok, e2, bind_ok, ← hto, ← hE]
  by_cases hk6 : s.kind = 6
  ·have hk := hk6
   have e : hasS s = { st0 with kind := s.kind, table := tabS s, wher := s.wher } := by unfold hasS; rw [if_neg (by omega), if_neg (by omega), if_neg (by omega), if_neg (by omega), if_pos hk]
   have hE : s = { st0 with kind := s.kind, table := s.table, wher := s.wher } := eqh.trans (e.trans (by rw [htab]))
   rw [hk] at hE
   have hd0 : l.drop 0 = wordT ⟨#[68, 69, 76, 69, 84, 69]⟩ :: wordT ⟨#[70, 82, 79, 77]⟩ :: wordT s.table :: (showW s.wher ++ r) := by
    rw [hd]; unfold showS; rw [if_neg (by omega), if_neg (by omega), if_neg (by omega), if_neg (by omega), if_neg (by omega), if_pos hk]; simp
   obtain ⟨-, -, hd1⟩ := drop_at hd0
   obtain ⟨-, -, hd2⟩ := drop_at hd1
   obtain ⟨-, -, hd3⟩ := drop_at hd2
   obtain ⟨q, os, e2, hd7⟩ := where_of (hs.w (.inr (.inr hk))) h40 [] hd3 t1 t2
   refine ⟨q, os, ?_, hd7⟩
   unfold stP
   rw [if_neg (nq_w hd0 (by decide +kernel)), if_neg (nq_w hd0 (by decide +kernel)), if_neg (nq_w hd0 (by decide +kernel)), if_neg (nq_w hd0 (by decide +kernel)), if_neg (nq_w hd0 (by decide +kernel)), if_pos (yq_w hd0 (by decide +kernel)), must_of [] hd1, bind_ok, name_of [] hnt hd2, bind_ok, e2, bind_ok, ← hE]
  have hk : s.kind = 2 := by omega
  have e : hasS s = { st0 with kind := s.kind, table := tabS s } := by unfold hasS; rw [if_neg (by omega), if_neg (by omega), if_neg (by omega), if_neg (by omega), if_neg (by omega)]
  have hE : s = { st0 with kind := s.kind, table := s.table } := eqh.trans (e.trans (by rw [htab]))
  rw [hk] at hE
  have hd0 : l.drop 0 = wordT ⟨#[68, 82, 79, 80]⟩ :: wordT ⟨#[84, 65, 66, 76, 69]⟩ :: wordT s.table :: r := by
   rw [hd]; unfold showS; rw [if_neg (by omega), if_pos hk]; simp
  obtain ⟨-, -, hd1⟩ := drop_at hd0
  obtain ⟨-, -, hd2⟩ := drop_at hd1
  obtain ⟨-, -, hd3⟩ := drop_at hd2
  refine ⟨_, [], ?_, hd3⟩
  unfold stP
  rw [if_neg (nq_w hd0 (by decide +kernel)), if_pos (yq_w hd0 (by decide +kernel)), must_of [] hd1, bind_ok, name_of [] hnt hd2, bind_ok, ← hE]
 have htab : tabS s = ⟨#[]⟩ := if_neg h7
 have e : hasS s = { st0 with kind := s.kind, table := tabS s } := by unfold hasS; rw [if_neg (by omega), if_neg (by omega), if_neg (by omega), if_neg (by omega), if_neg (by omega)]
 have hE : s = { st0 with kind := s.kind, table := ⟨#[]⟩ } := eqh.trans (e.trans (by rw [htab]))
 have hk : s.kind = 7 ∨ s.kind = 8 ∨ s.kind = 9 := by omega
 have hsw : showS s = [endN.getD (s.kind - 7).toNat ⟨#[]⟩].map wordT := by unfold showS; rw [if_neg (by omega), if_neg (by omega), if_neg (by omega), if_neg (by omega), if_neg (by omega), if_neg (by omega)]
 rw [hsw] at hd
 rcases hk with hk | hk | hk
 ·rw [hk] at hd hE
  have hd0 : l.drop 0 = wordT ⟨#[66, 69, 71, 73, 78]⟩ :: r := hd
  obtain ⟨-, -, hd1⟩ := drop_at hd0
  refine ⟨_, [], ?_, hd1⟩
  unfold stP
  rw [if_neg (nq_w hd0 (by decide +kernel)), if_neg (nq_w hd0 (by decide +kernel)), if_neg (nq_w hd0 (by decide +kernel)), if_neg (nq_w hd0 (by decide +kernel)), if_neg (nq_w hd0 (by decide +kernel)), if_neg (nq_w hd0 (by decide +kernel)), if_pos (yq_w hd0 (by decide +kernel))]
  exact congrArg (fun x => Rs.ok x _ _) hE.symm
 ·rw [hk] at hd hE
  have hd0 : l.drop 0 = wordT ⟨#[67, 79, 77, 77, 73, 84]⟩ :: r := hd
  obtain ⟨-, -, hd1⟩ := drop_at hd0
  refine ⟨_, [], ?_, hd1⟩
  unfold stP
  rw [if_neg (nq_w hd0 (by decide +kernel)), if_neg (nq_w hd0 (by decide +kernel)), if_neg (nq_w hd0 (by decide +kernel)), if_neg (nq_w hd0 (by decide +kernel)), if_neg (nq_w hd0 (by decide +kernel)), if_neg (nq_w hd0 (by decide +kernel)), if_neg (nq_w hd0 (by decide +kernel)), if_pos (yq_w hd0 (by decide +kernel))]
  exact congrArg (fun x => Rs.ok x _ _) hE.symm
 rw [hk] at hd hE
 have hd0 : l.drop 0 = wordT ⟨#[82, 79, 76, 76, 66, 65, 67, 75]⟩ :: r := hd
 obtain ⟨-, -, hd1⟩ := drop_at hd0
 refine ⟨_, [], ?_, hd1⟩
 unfold stP
 rw [if_neg (nq_w hd0 (by decide +kernel)), if_neg (nq_w hd0 (by decide +kernel)), if_neg (nq_w hd0 (by decide +kernel)), if_neg (nq_w hd0 (by decide +kernel)), if_neg (nq_w hd0 (by decide +kernel)), if_neg (nq_w hd0 (by decide +kernel)), if_neg (nq_w hd0 (by decide +kernel)), if_neg (nq_w hd0 (by decide +kernel)), if_pos (yq_w hd0 (by decide +kernel))]
 exact congrArg (fun x => Rs.ok x _ _) hE.symm

end Go.Proofs.YtjgekbmahhhokaaDoor.Pa

namespace Go.Proofs.YtjgekbmahhhokaaDoor.Nm
open Go.Proofs.Tryd
open Go.RowKit V Pk Vl
inductive Tw where
 | mk (k n : Int) (s : ByteArray) (ts : List Tw)
mutual
def Tw.cs : Tw → List D
 | .mk k n s ts => [.v (.int .i64 k), .v (.int .i64 n), .v (.string s), .list 4 (Tw.css ts) ts.length]
def Tw.css : List Tw → List D
 | [] => []
 | t :: r => t.cs ++ Tw.css r
end
theorem Tw.css_eq : ∀ ts : List Tw, Tw.css ts = ts.flatMap Tw.cs
 | [] => rfl
 | t :: r => by rw [Tw.css, Tw.css_eq r, List.flatMap_cons]
theorem Tw.cs_len (t : Tw) : t.cs.length = 4 := by cases t; rfl
mutual
def Tw.Ok : Tw → Prop
 | .mk k n s ts => (-9223372036854775808 ≤ k ∧ k ≤ 9223372036854775807) ∧ (-9223372036854775808 ≤ n ∧ n ≤ 9223372036854775807) ∧ s.size ≤ maxLen ∧ ts.length ≤ maxLen ∧ Tw.Oks ts
def Tw.Oks : List Tw → Prop
 | [] => True
 | t :: r => t.Ok ∧ Tw.Oks r
end
theorem Tw.oks_all : ∀ {ts : List Tw}, Tw.Oks ts → ∀ t ∈ ts, t.Ok
 | [], _, t, h => by cases h
 | a :: r, ⟨h1, h2⟩, t, h => by
  rcases List.mem_cons.1 h with rfl | h
  ·exact h1
  exact Tw.oks_all h2 t h
theorem Tw.all_oks : ∀ {ts : List Tw}, (∀ t ∈ ts, t.Ok) → Tw.Oks ts
 | [], _ => trivial
 | a :: r, h => ⟨h a List.mem_cons_self, Tw.all_oks fun t ht => h t (List.mem_cons_of_mem _ ht)⟩

def nameC (j : Int) : ByteArray := if j = 0 then ⟨#[105, 100]⟩ else if j = 1 then ⟨#[110]⟩ else if j = 2 then ⟨#[115]⟩ else ⟨#[98]⟩
def litV (n : Int) (s : ByteArray) : Vl := { valueF ⟨n, pickedF n 40 - 20, s⟩ with s := cutF (valueF ⟨n, pickedF n 40 - 20, s⟩).s 4 }
def litOp (n : Int) (s : ByteArray) : OpL := ⟨1, litV n s, ⟨#[]⟩⟩
def colOp (n : Int) : OpL := ⟨2, noVl, nameC (pickedF n 4)⟩
def bareOp (k : Int) : OpL := ⟨k, noVl, ⟨#[]⟩⟩
def leafOps (k n : Int) (s : ByteArray) : List OpL := if 1 + pickedF k 11 = 2 then [colOp n] else [litOp n s]
def opsAt : Nat → Tw → List OpL
 | 0, .mk k n s _ => leafOps k n s
 | r + 1, .mk k n s ts =>
  if 1 + pickedF k 11 = 1 then [litOp n s]
  else if 1 + pickedF k 11 = 2 then [colOp n]
  else if 1 + pickedF k 11 = 5 ∨ 1 + pickedF k 11 = 11 then (match ts[0]? with | some t => opsAt r t | none => leafOps n 0 s) ++ [bareOp (1 + pickedF k 11)]
  else ((match ts[0]? with | some t => opsAt r t | none => leafOps n 0 s) ++ (match ts[1]? with | some t => opsAt r t | none => leafOps n 1 s)) ++ [bareOp (1 + pickedF k 11)]
def subO (r : Nat) (ts : List Tw) (n : Int) (s : ByteArray) (i : Nat) : List OpL := match ts[i]? with | some t => opsAt r t | none => leafOps n i s
theorem leaf_len (k n : Int) (s : ByteArray) : (leafOps k n s).length = 1 := by unfold leafOps; split <;> rfl
theorem ops_len : ∀ (r : Nat) (t : Tw), 1 ≤ (opsAt r t).length ∧ (opsAt r t).length + 1 ≤ 2 ^ (r + 1)
 | 0, .mk k n s ts => by rw [opsAt, leaf_len]; exact ⟨by decide, by decide⟩
 | r + 1, .mk k n s ts => by
  have hsub : ∀ i : Nat, 1 ≤ (subO r ts n s i).length ∧ (subO r ts n s i).length + 1 ≤ 2 ^ (r + 1) := fun i => by
   unfold subO
   split
   ·exact ops_len r _
   rw [leaf_len]; exact ⟨by decide, by rw [Nat.pow_succ]; have := Nat.one_le_two_pow (n := r); omega⟩
  have h0 := hsub 0
  have h1 := hsub 1
  unfold subO at h0 h1
  have hp : 2 ^ (r + 1 + 1) = 2 ^ (r + 1) + 2 ^ (r + 1) := by rw [Nat.pow_succ]; omega
  rw [opsAt]
  simp only [Int.natCast_zero, Int.natCast_one] at h0 h1
  split
  ·exact ⟨by simp, by simp; omega⟩
  split
  ·exact ⟨by simp, by simp; omega⟩
  split <;> simp only [List.length_append, List.length_cons, List.length_nil] <;> omega
theorem sub_len (r : Nat) (ts : List Tw) (n : Int) (s : ByteArray) (i : Nat) : 1 ≤ (subO r ts n s i).length ∧ (subO r ts n s i).length + 1 ≤ 2 ^ (r + 1) := by
 unfold subO
 split
 ·exact ops_len r _
 rw [leaf_len]; exact ⟨by decide, by rw [Nat.pow_succ]; have := Nat.one_le_two_pow (n := r); omega⟩
theorem value_size (r : Vl) : (valueF r).s.size ≤ 10 := by
 unfold valueF noVl
 split
 ·exact Nat.zero_le _
 split
 ·exact Nat.zero_le _
 split
 ·show (cutF r.s 10).size ≤ 10
  rw [cutF_size]; omega
 decide
theorem name_at {j : Nat} (h : j < 4) : [D.v (.string ⟨#[105, 100]⟩), D.v (.string ⟨#[110]⟩), D.v (.string ⟨#[115]⟩), D.v (.string ⟨#[98]⟩)][j * 1]? = some (.v (.string (nameC (j : Int)))) := by
 match j, h with
 | 0, _ | 1, _ | 2, _ | 3, _ => rfl
variable {G : List (Nat × List Value)}
abbrev RetO (ls : List OpL) (r : D) (S : List Blk) : Prop := RetL cO 39 5 ls r S

theorem places39_Nm4 : ∀ w, ((#[{ name := "Kind", type := 3, offset := 0, embedded := false, tag := "", pkgPath := "", byteOffset := 0 }, { name := "Value", type := 37, offset := 1, embedded := false, tag := "", pkgPath := "", byteOffset := 8 }, { name := "Name", type := 9, offset := 4, embedded := false, tag := "", pkgPath := "", byteOffset := 40 }] : Array Field).mapM fun f => do pure (f.offset, ← sizeOf f.type) : Sem (Array (Nat × Nat))).run Tryd.prog w = .ok #[(0, 1), (1, 3), (4, 1)] w := fun w => by simp [sizeOf3, sizeOf37, sizeOf9]

theorem places57_Nm4 : ∀ w, ((#[{ name := "Kind", type := 3, offset := 0, embedded := false, tag := "", pkgPath := "", byteOffset := 0 }, { name := "Int", type := 3, offset := 1, embedded := false, tag := "", pkgPath := "", byteOffset := 8 }, { name := "Text", type := 9, offset := 2, embedded := false, tag := "", pkgPath := "", byteOffset := 16 }] : Array Field).mapM fun f => do pure (f.offset, ← sizeOf f.type) : Sem (Array (Nat × Nat))).run Tryd.prog w = .ok #[(0, 1), (1, 1), (2, 1)] w := fun w => by simp [sizeOf3, sizeOf9]

theorem leaf_vc (k n d : Int) (s : ByteArray) (d4 : D) (h4 : solid d4 = true) (hk1 : -9223372036854775808 ≤ k) (hk2 : k ≤ 9223372036854775807) (hn1 : -9223372036854775808 ≤ n) (hn2 : n ≤ 9223372036854775807) (hs : s.size ≤ maxLen) (hd : 2 < d) : VC Tryd.prog G 52 [.agg [.v (.int .i64 k), .v (.int .i64 n), .v (.string s), d4], .v (.int .i64 d)] [] (RetO (leafOps k n s)) := by
 refine VC.body func52 rfl ntmps52 le_ fun X0 w0 S00 => ?_
 have hpk := pickedF_bd k (by decide : (1 : Int) ≤ 11)
 have hpn := pickedF_bd n (by decide : (1 : Int) ≤ 40)
 have hpc := pickedF_bd n (by decide : (1 : Int) ≤ 4)
 obtain ⟨j, hj⟩ := Int.eq_ofNat_of_zero_le hpc.1
 have hj4 : j < 4 := by omega
 have hpkn := picked_vp G n 4 hn1 hn2 (by decide)
 rw [hj] at hpkn
 have hvo : (⟨n, pickedF n 40 - 20, s⟩ : Vl).Ok := ⟨hn1, hn2, by show _ ≤ pickedF n 40 - 20; omega, by show pickedF n 40 - 20 ≤ _; omega, hs⟩
 have hvs := value_size ⟨n, pickedF n 40 - 20, s⟩
 have hml : 100 ≤ maxLen := by decide
 obtain ⟨kk, hkk⟩ : ∃ kk : Int, 1 + pickedF k 11 = kk := ⟨_, rfl⟩
 refine sr_ ?_
 refine OD.box (ds := [_, _, _, _]) wp_ rfl rfl ot rfl rfl (fun b2 => ?_)
 refine OD.box (ds := [_]) wp_ rfl rfl ot rfl rfl (fun b3 => ?_)
 refine om_ ?_
 refine on_ [(2, _), (3, _)] [⟨b3, 3, 1, [_]⟩, ⟨b2, 45, 4, [_, _, _, _]⟩] ?_
 refine sr_ ?_
 refine os_ (fa_ 0) ?_
 refine os_ (lb_ 1) ?_
 refine oc_ call11 (picked_vp G k 11 hk1 hk2 (by decide)) ?_
 refine os_ (still_bin (r := .int .i64 kk) rfl opd_const ot (bin_add (by rw [hkk]; exact wrap_i64 (by omega) (by omega)))) ?_
 refine om_ ?_
 refine on_ [(2, _), (3, _), (5, _)] [⟨b3, 3, 1, [_]⟩, ⟨b2, 45, 4, [_, _, _, _]⟩] ?_
 refine CD.seq ?_
 refine sr_ ?_
 refine os_ (lb_ 0) ?_
 refine os_ bn_ ?_
 refine om_ ?_
 refine OD.split (t := 14) lk (fun hg14 => ?_) (fun hg14 => ?_)
 ·have hg14' := hg14; (try simp only [V.cnd, ne_eq] at hg14')
  refine om_ ?_
  refine os_ bn_ ?_
  refine os_ pkT_ ?_
  refine nm_ [2, 3, 5, 17] ?_
  refine CD.cond ot (fun hc0 => ?_) (fun hc0 => ?_)
  ·have hc0' := hc0
   (try simp only [V.cnd, ne_eq] at hc0')
   refine CD.region ?_
   refine om_ ?_
   refine nm_ [2, 3, 5] ?_
   refine sr_ ?_
   refine os_ (still_fn (ds := [_, _]) rfl ⟨ot, ot, trivial⟩) ?_
   refine om_ ?_
   refine on_ [(2, _), (5, _), (6, _)] [⟨b3, 3, 1, [_]⟩, ⟨b2, 45, 4, [_, _, _, _]⟩] ?_
   refine CD.seq ?_
   refine sr_ ?_
   refine om_ ?_
   refine nm_ [2, 5, 6, 19] ?_
   refine CD.block ?_
   refine sr_ ?_
   refine os_ bn_ ?_
   refine om_ ?_
   refine nm_ [2, 5, 6, 19, 20] ?_
   refine CD.condT ot (by first | rfl | assumption) ?_
   refine CD.seq ?_
   refine CD.draw (bks _) kr_ (fun _ h => h) ?_
   refine tz_ 0 rfl (still_r1 (mk := fun y => Op.fieldAddr 45 y 1) rfl ot (by first | exact fa_ptr (off := 1) runUnderlying45 rfl sizeOf3 rfl | exact fa_iptr (off := 1) runUnderlying45 rfl sizeOf3 rfl)) ?_
   refine AD0.take (i := 1) rfl kr_ kr_ kr_ np_ wp_ rfl (still_r1 (mk := Op.load 3) rfl ot (by first | exact ld_blk (k := 1) rfl rfl isAgg3 rfl | exact ld_i isAgg3 rfl)) (by first | exact trivial | exact safe_blk (k0 := 0) rfl rfl | exact safe_blk (k0 := 1) rfl rfl) ?_
   refine tz_ 2 rfl (still_r1 (mk := fun y => Op.fieldAddr 45 y 1) rfl ot (by first | exact fa_ptr (off := 1) runUnderlying45 rfl sizeOf3 rfl | exact fa_iptr (off := 1) runUnderlying45 rfl sizeOf3 rfl)) ?_
   refine AD0.take (i := 3) rfl kr_ kr_ kr_ np_ wp_ rfl (still_r1 (mk := Op.load 3) rfl ot (by first | exact ld_blk (k := 1) rfl rfl isAgg3 rfl | exact ld_i isAgg3 rfl)) (by first | exact trivial | exact safe_blk (k0 := 0) rfl rfl | exact safe_blk (k0 := 1) rfl rfl) ?_
   refine tz_ 6 rfl (still_r1 (mk := fun y => Op.fieldAddr 45 y 2) rfl ot (by first | exact fa_ptr (off := 2) runUnderlying45 rfl sizeOf9 rfl | exact fa_iptr (off := 2) runUnderlying45 rfl sizeOf9 rfl)) ?_
   refine AD0.take (i := 7) rfl kr_ kr_ kr_ np_ wp_ rfl (still_r1 (mk := Op.load 9) rfl ot (by first | exact ld_blk (k := 1) rfl rfl isAgg9 rfl | exact ld_i isAgg9 rfl)) (by first | exact trivial | exact safe_blk (k0 := 0) rfl rfl | exact safe_blk (k0 := 1) rfl rfl) ?_
   refine AD0.later rfl ?_
   refine AD.two (i := 4) (j := 10) kr_ ?_ ?_
   ·skip
    refine ac_ call11 (picked_vp G n 40 hn1 hn2 (by decide)) ?_
    refine tk_ 5 rfl (still_bin rfl ot opd_const (bin_sub (wrap_i64 (by omega) (by omega)))) ?_
    refine tk_ 8 rfl (still_bld (pl := [(0, _), (1, _), (2, _)]) (ds := [_, _, _]) rfl zeroValue57 runUnderlying57 places57_Nm4 ⟨rfl, ot, rfl, ot, rfl, ot, trivial⟩ rfl rfl) ?_
    refine AD.two (i := 9) (j := 10) kr_ ?_ ?_
    ·skip
     refine ac_ call19 (value_vp ⟨n, pickedF n 40 - 20, s⟩ hvo) ?_
     refine AD.one (i := 10) kr_ ?_
     refine AStep.alloc (ds := [_, _, _]) rfl wp_ rfl rfl zeroValue37 rfl (fun b7 => ?_)
     refine AD.one (i := 11) kr_ ?_
     refine as_ 0 [_, _, _] sizeOf37 ?_
     refine aw_ [(5, _), (7, _)] [⟨b7, 37, 3, [_, _, _]⟩, ⟨b3, 3, 1, [_]⟩, ⟨b2, 45, 4, [_, _, _, _]⟩] ?_
     refine AD.done kr_ ?_
     refine sr_ ?_
     refine os_ (fa_ 2) ?_
     refine os_ (lb_ 0) ?_
     refine oc_ call29 (cut_vp (valueF ⟨n, pickedF n 40 - 20, s⟩).s 4 (by omega)) ?_
     refine os_ (fa_ 2) ?_
     refine ot_ 0 [_, _, _] sizeOf9 ?_
     refine on_ [(5, _), (7, _)] [⟨b7, 37, 3, [_, _, _]⟩, ⟨b3, 3, 1, [_]⟩, ⟨b2, 45, 4, [_, _, _, _]⟩] ?_
     refine sr_ ?_
     refine om_ ?_
     refine os_ (lab_ 0 [_, _, _]) ?_
     refine os_ (still_bld (pl := [(0, _), (1, _)]) (ds := [_, _, _, _, _]) rfl zeroValue39 runUnderlying39 places39_Nm4 ⟨rfl, ot, rfl, ot, trivial⟩ rfl rfl) ?_
     refine ob_ (numD 0 [_]) [.int .i64 0, .int .i64 0, .int .i64 0, .string ⟨#[]⟩, .string ⟨#[]⟩] [_, _, _, _, _] zeroValue39 runUnderlying30 sizeOf39 (fun b39 => ?_)
     refine om_ ?_
     refine on_ [(4, _)] [⟨b39, 39, 5, [_, _, _, _, _]⟩, ⟨b7, 37, 3, [_, _, _]⟩, ⟨b3, 3, 1, [_]⟩, ⟨b2, 45, 4, [_, _, _, _]⟩] ?_
     refine CD.ret ?_
     refine ⟨.inr rfl, _, [_], (List.Sublist.cons_cons _ (List.nil_sublist _)), ret_one results52 (res_tmp le_ lk), ?_⟩
     first | exact RetL.cast (RetL.mk (g := cO) (e := 39) (sz := 5) (ls := [(⟨1, litV n s, ⟨#[]⟩⟩ : OpL)]) (ownL_row (ls := [(⟨1, litV n s, ⟨#[]⟩⟩ : OpL)]) (Nat.le_refl _) (show 1 ≤ maxLen by decide))) (by unfold leafOps litOp; rw [if_neg (by omega)]) | exact RetL.cast (RetL.mk (g := cO) (e := 39) (sz := 5) (ls := [(⟨kk, litV n s, ⟨#[]⟩⟩ : OpL)]) (ownL_row (ls := [(⟨kk, litV n s, ⟨#[]⟩⟩ : OpL)]) (Nat.le_refl _) (show 1 ≤ maxLen by decide))) (by unfold leafOps litOp; rw [if_neg (by omega), show kk = 1 by omega]) | exact RetL.cast (RetL.mk (g := cO) (e := 39) (sz := 5) (ls := [(⟨kk, noVl, nameC (j : Int)⟩ : OpL)]) (ownL_row (ls := [(⟨kk, noVl, nameC (j : Int)⟩ : OpL)]) (Nat.le_refl _) (show 1 ≤ maxLen by decide))) (by unfold leafOps colOp; rw [if_pos (by omega), hj, show kk = 2 by omega])
    refine AStep.alloc (ds := [_, _, _]) rfl wp_ rfl rfl zeroValue37 rfl (fun b7 => ?_)
    refine AD.one (i := 9) kr_ ?_
    refine ac_ call19 (value_vp ⟨n, pickedF n 40 - 20, s⟩ hvo) ?_
    refine AD.one (i := 11) kr_ ?_
    refine as_ 0 [_, _, _] sizeOf37 ?_
    refine aw_ [(5, _), (7, _)] [⟨b7, 37, 3, [_, _, _]⟩, ⟨b3, 3, 1, [_]⟩, ⟨b2, 45, 4, [_, _, _, _]⟩] ?_
    refine AD.done kr_ ?_
    refine sr_ ?_
    refine os_ (fa_ 2) ?_
    refine os_ (lb_ 0) ?_
    refine oc_ call29 (cut_vp (valueF ⟨n, pickedF n 40 - 20, s⟩).s 4 (by omega)) ?_
    refine os_ (fa_ 2) ?_
    refine ot_ 0 [_, _, _] sizeOf9 ?_
    refine on_ [(5, _), (7, _)] [⟨b7, 37, 3, [_, _, _]⟩, ⟨b3, 3, 1, [_]⟩, ⟨b2, 45, 4, [_, _, _, _]⟩] ?_
    refine sr_ ?_
    refine om_ ?_
    refine os_ (lab_ 0 [_, _, _]) ?_
    refine os_ (still_bld (pl := [(0, _), (1, _)]) (ds := [_, _, _, _, _]) rfl zeroValue39 runUnderlying39 places39_Nm4 ⟨rfl, ot, rfl, ot, trivial⟩ rfl rfl) ?_
    refine ob_ (numD 0 [_]) [.int .i64 0, .int .i64 0, .int .i64 0, .string ⟨#[]⟩, .string ⟨#[]⟩] [_, _, _, _, _] zeroValue39 runUnderlying30 sizeOf39 (fun b39 => ?_)
    refine om_ ?_
    refine on_ [(4, _)] [⟨b39, 39, 5, [_, _, _, _, _]⟩, ⟨b7, 37, 3, [_, _, _]⟩, ⟨b3, 3, 1, [_]⟩, ⟨b2, 45, 4, [_, _, _, _]⟩] ?_
    refine CD.ret ?_
    refine ⟨.inr rfl, _, [_], (List.Sublist.cons_cons _ (List.nil_sublist _)), ret_one results52 (res_tmp le_ lk), ?_⟩
    first | exact RetL.cast (RetL.mk (g := cO) (e := 39) (sz := 5) (ls := [(⟨1, litV n s, ⟨#[]⟩⟩ : OpL)]) (ownL_row (ls := [(⟨1, litV n s, ⟨#[]⟩⟩ : OpL)]) (Nat.le_refl _) (show 1 ≤ maxLen by decide))) (by unfold leafOps litOp; rw [if_neg (by omega)]) | exact RetL.cast (RetL.mk (g := cO) (e := 39) (sz := 5) (ls := [(⟨kk, litV n s, ⟨#[]⟩⟩ : OpL)]) (ownL_row (ls := [(⟨kk, litV n s, ⟨#[]⟩⟩ : OpL)]) (Nat.le_refl _) (show 1 ≤ maxLen by decide))) (by unfold leafOps litOp; rw [if_neg (by omega), show kk = 1 by omega]) | exact RetL.cast (RetL.mk (g := cO) (e := 39) (sz := 5) (ls := [(⟨kk, noVl, nameC (j : Int)⟩ : OpL)]) (ownL_row (ls := [(⟨kk, noVl, nameC (j : Int)⟩ : OpL)]) (Nat.le_refl _) (show 1 ≤ maxLen by decide))) (by unfold leafOps colOp; rw [if_pos (by omega), hj, show kk = 2 by omega])
   refine AStep.alloc (ds := [_, _, _]) rfl wp_ rfl rfl zeroValue37 rfl (fun b7 => ?_)
   refine AD.one (i := 4) kr_ ?_
   refine ac_ call11 (picked_vp G n 40 hn1 hn2 (by decide)) ?_
   refine tk_ 5 rfl (still_bin rfl ot opd_const (bin_sub (wrap_i64 (by omega) (by omega)))) ?_
   refine tk_ 8 rfl (still_bld (pl := [(0, _), (1, _), (2, _)]) (ds := [_, _, _]) rfl zeroValue57 runUnderlying57 places57_Nm4 ⟨rfl, ot, rfl, ot, rfl, ot, trivial⟩ rfl rfl) ?_
   refine AD.one (i := 9) kr_ ?_
   refine ac_ call19 (value_vp ⟨n, pickedF n 40 - 20, s⟩ hvo) ?_
   refine AD.one (i := 11) kr_ ?_
   refine as_ 0 [_, _, _] sizeOf37 ?_
   refine aw_ [(5, _), (7, _)] [⟨b7, 37, 3, [_, _, _]⟩, ⟨b3, 3, 1, [_]⟩, ⟨b2, 45, 4, [_, _, _, _]⟩] ?_
   refine AD.done kr_ ?_
   refine sr_ ?_
   refine os_ (fa_ 2) ?_
   refine os_ (lb_ 0) ?_
   refine oc_ call29 (cut_vp (valueF ⟨n, pickedF n 40 - 20, s⟩).s 4 (by omega)) ?_
   refine os_ (fa_ 2) ?_
   refine ot_ 0 [_, _, _] sizeOf9 ?_
   refine on_ [(5, _), (7, _)] [⟨b7, 37, 3, [_, _, _]⟩, ⟨b3, 3, 1, [_]⟩, ⟨b2, 45, 4, [_, _, _, _]⟩] ?_
   refine sr_ ?_
   refine om_ ?_
   refine os_ (lab_ 0 [_, _, _]) ?_
   refine os_ (still_bld (pl := [(0, _), (1, _)]) (ds := [_, _, _, _, _]) rfl zeroValue39 runUnderlying39 places39_Nm4 ⟨rfl, ot, rfl, ot, trivial⟩ rfl rfl) ?_
   refine ob_ (numD 0 [_]) [.int .i64 0, .int .i64 0, .int .i64 0, .string ⟨#[]⟩, .string ⟨#[]⟩] [_, _, _, _, _] zeroValue39 runUnderlying30 sizeOf39 (fun b39 => ?_)
   refine om_ ?_
   refine on_ [(4, _)] [⟨b39, 39, 5, [_, _, _, _, _]⟩, ⟨b7, 37, 3, [_, _, _]⟩, ⟨b3, 3, 1, [_]⟩, ⟨b2, 45, 4, [_, _, _, _]⟩] ?_
   refine CD.ret ?_
   refine ⟨.inr rfl, _, [_], (List.Sublist.cons_cons _ (List.nil_sublist _)), ret_one results52 (res_tmp le_ lk), ?_⟩
   first | exact RetL.cast (RetL.mk (g := cO) (e := 39) (sz := 5) (ls := [(⟨1, litV n s, ⟨#[]⟩⟩ : OpL)]) (ownL_row (ls := [(⟨1, litV n s, ⟨#[]⟩⟩ : OpL)]) (Nat.le_refl _) (show 1 ≤ maxLen by decide))) (by unfold leafOps litOp; rw [if_neg (by omega)]) | exact RetL.cast (RetL.mk (g := cO) (e := 39) (sz := 5) (ls := [(⟨kk, litV n s, ⟨#[]⟩⟩ : OpL)]) (ownL_row (ls := [(⟨kk, litV n s, ⟨#[]⟩⟩ : OpL)]) (Nat.le_refl _) (show 1 ≤ maxLen by decide))) (by unfold leafOps litOp; rw [if_neg (by omega), show kk = 1 by omega]) | exact RetL.cast (RetL.mk (g := cO) (e := 39) (sz := 5) (ls := [(⟨kk, noVl, nameC (j : Int)⟩ : OpL)]) (ownL_row (ls := [(⟨kk, noVl, nameC (j : Int)⟩ : OpL)]) (Nat.le_refl _) (show 1 ≤ maxLen by decide))) (by unfold leafOps colOp; rw [if_pos (by omega), hj, show kk = 2 by omega])
  have hc0' := hc0
  (try simp only [V.cnd, ne_eq] at hc0')
  refine CD.skip ?_
  refine sr_ ?_
  refine os_ (still_fn (ds := [_, _]) rfl ⟨ot, ot, trivial⟩) ?_
  refine om_ ?_
  refine on_ [(2, _), (5, _), (6, _)] [⟨b3, 3, 1, [_]⟩, ⟨b2, 45, 4, [_, _, _, _]⟩] ?_
  refine CD.seq ?_
  refine sr_ ?_
  refine om_ ?_
  refine nm_ [2, 5, 6, 19] ?_
  refine CD.block ?_
  refine sr_ ?_
  refine os_ bn_ ?_
  refine om_ ?_
  refine nm_ [2, 5, 6, 19, 20] ?_
  refine CD.cond ot (fun hc1 => ?_) (fun hc1 => ?_)
  ·have hc1' := hc1
   (try simp only [V.cnd, ne_eq] at hc1')
   refine CD.seq ?_
   refine CD.draw (bks _) kr_ (fun _ h => h) ?_
   refine tz_ 0 rfl (still_r1 (mk := fun y => Op.fieldAddr 45 y 1) rfl ot (by first | exact fa_ptr (off := 1) runUnderlying45 rfl sizeOf3 rfl | exact fa_iptr (off := 1) runUnderlying45 rfl sizeOf3 rfl)) ?_
   refine AD0.take (i := 1) rfl kr_ kr_ kr_ np_ wp_ rfl (still_r1 (mk := Op.load 3) rfl ot (by first | exact ld_blk (k := 1) rfl rfl isAgg3 rfl | exact ld_i isAgg3 rfl)) (by first | exact trivial | exact safe_blk (k0 := 0) rfl rfl | exact safe_blk (k0 := 1) rfl rfl) ?_
   refine tz_ 2 rfl (still_r1 (mk := fun y => Op.fieldAddr 45 y 1) rfl ot (by first | exact fa_ptr (off := 1) runUnderlying45 rfl sizeOf3 rfl | exact fa_iptr (off := 1) runUnderlying45 rfl sizeOf3 rfl)) ?_
   refine AD0.take (i := 3) rfl kr_ kr_ kr_ np_ wp_ rfl (still_r1 (mk := Op.load 3) rfl ot (by first | exact ld_blk (k := 1) rfl rfl isAgg3 rfl | exact ld_i isAgg3 rfl)) (by first | exact trivial | exact safe_blk (k0 := 0) rfl rfl | exact safe_blk (k0 := 1) rfl rfl) ?_
   refine tz_ 6 rfl (still_r1 (mk := fun y => Op.fieldAddr 45 y 2) rfl ot (by first | exact fa_ptr (off := 2) runUnderlying45 rfl sizeOf9 rfl | exact fa_iptr (off := 2) runUnderlying45 rfl sizeOf9 rfl)) ?_
   refine AD0.take (i := 7) rfl kr_ kr_ kr_ np_ wp_ rfl (still_r1 (mk := Op.load 9) rfl ot (by first | exact ld_blk (k := 1) rfl rfl isAgg9 rfl | exact ld_i isAgg9 rfl)) (by first | exact trivial | exact safe_blk (k0 := 0) rfl rfl | exact safe_blk (k0 := 1) rfl rfl) ?_
   refine AD0.later rfl ?_
   refine AD.two (i := 4) (j := 10) kr_ ?_ ?_
   ·skip
    refine ac_ call11 (picked_vp G n 40 hn1 hn2 (by decide)) ?_
    refine tk_ 5 rfl (still_bin rfl ot opd_const (bin_sub (wrap_i64 (by omega) (by omega)))) ?_
    refine tk_ 8 rfl (still_bld (pl := [(0, _), (1, _), (2, _)]) (ds := [_, _, _]) rfl zeroValue57 runUnderlying57 places57_Nm4 ⟨rfl, ot, rfl, ot, rfl, ot, trivial⟩ rfl rfl) ?_
    refine AD.two (i := 9) (j := 10) kr_ ?_ ?_
    ·skip
     refine ac_ call19 (value_vp ⟨n, pickedF n 40 - 20, s⟩ hvo) ?_
     refine AD.one (i := 10) kr_ ?_
     refine AStep.alloc (ds := [_, _, _]) rfl wp_ rfl rfl zeroValue37 rfl (fun b7 => ?_)
     refine AD.one (i := 11) kr_ ?_
     refine as_ 0 [_, _, _] sizeOf37 ?_
     refine aw_ [(5, _), (7, _)] [⟨b7, 37, 3, [_, _, _]⟩, ⟨b3, 3, 1, [_]⟩, ⟨b2, 45, 4, [_, _, _, _]⟩] ?_
     refine AD.done kr_ ?_
     refine sr_ ?_
     refine os_ (fa_ 2) ?_
     refine os_ (lb_ 0) ?_
     refine oc_ call29 (cut_vp (valueF ⟨n, pickedF n 40 - 20, s⟩).s 4 (by omega)) ?_
     refine os_ (fa_ 2) ?_
     refine ot_ 0 [_, _, _] sizeOf9 ?_
     refine on_ [(5, _), (7, _)] [⟨b7, 37, 3, [_, _, _]⟩, ⟨b3, 3, 1, [_]⟩, ⟨b2, 45, 4, [_, _, _, _]⟩] ?_
     refine sr_ ?_
     refine om_ ?_
     refine os_ (lab_ 0 [_, _, _]) ?_
     refine os_ (still_bld (pl := [(0, _), (1, _)]) (ds := [_, _, _, _, _]) rfl zeroValue39 runUnderlying39 places39_Nm4 ⟨rfl, ot, rfl, ot, trivial⟩ rfl rfl) ?_
     refine ob_ (numD 0 [_]) [.int .i64 0, .int .i64 0, .int .i64 0, .string ⟨#[]⟩, .string ⟨#[]⟩] [_, _, _, _, _] zeroValue39 runUnderlying30 sizeOf39 (fun b39 => ?_)
     refine om_ ?_
     refine on_ [(4, _)] [⟨b39, 39, 5, [_, _, _, _, _]⟩, ⟨b7, 37, 3, [_, _, _]⟩, ⟨b3, 3, 1, [_]⟩, ⟨b2, 45, 4, [_, _, _, _]⟩] ?_
     refine CD.ret ?_
     refine ⟨.inr rfl, _, [_], (List.Sublist.cons_cons _ (List.nil_sublist _)), ret_one results52 (res_tmp le_ lk), ?_⟩
     first | exact RetL.cast (RetL.mk (g := cO) (e := 39) (sz := 5) (ls := [(⟨1, litV n s, ⟨#[]⟩⟩ : OpL)]) (ownL_row (ls := [(⟨1, litV n s, ⟨#[]⟩⟩ : OpL)]) (Nat.le_refl _) (show 1 ≤ maxLen by decide))) (by unfold leafOps litOp; rw [if_neg (by omega)]) | exact RetL.cast (RetL.mk (g := cO) (e := 39) (sz := 5) (ls := [(⟨kk, litV n s, ⟨#[]⟩⟩ : OpL)]) (ownL_row (ls := [(⟨kk, litV n s, ⟨#[]⟩⟩ : OpL)]) (Nat.le_refl _) (show 1 ≤ maxLen by decide))) (by unfold leafOps litOp; rw [if_neg (by omega), show kk = 1 by omega]) | exact RetL.cast (RetL.mk (g := cO) (e := 39) (sz := 5) (ls := [(⟨kk, noVl, nameC (j : Int)⟩ : OpL)]) (ownL_row (ls := [(⟨kk, noVl, nameC (j : Int)⟩ : OpL)]) (Nat.le_refl _) (show 1 ≤ maxLen by decide))) (by unfold leafOps colOp; rw [if_pos (by omega), hj, show kk = 2 by omega])
    refine AStep.alloc (ds := [_, _, _]) rfl wp_ rfl rfl zeroValue37 rfl (fun b7 => ?_)
    refine AD.one (i := 9) kr_ ?_
    refine ac_ call19 (value_vp ⟨n, pickedF n 40 - 20, s⟩ hvo) ?_
    refine AD.one (i := 11) kr_ ?_
    refine as_ 0 [_, _, _] sizeOf37 ?_
    refine aw_ [(5, _), (7, _)] [⟨b7, 37, 3, [_, _, _]⟩, ⟨b3, 3, 1, [_]⟩, ⟨b2, 45, 4, [_, _, _, _]⟩] ?_
    refine AD.done kr_ ?_
    refine sr_ ?_
    refine os_ (fa_ 2) ?_
    refine os_ (lb_ 0) ?_
    refine oc_ call29 (cut_vp (valueF ⟨n, pickedF n 40 - 20, s⟩).s 4 (by omega)) ?_
    refine os_ (fa_ 2) ?_
    refine ot_ 0 [_, _, _] sizeOf9 ?_
    refine on_ [(5, _), (7, _)] [⟨b7, 37, 3, [_, _, _]⟩, ⟨b3, 3, 1, [_]⟩, ⟨b2, 45, 4, [_, _, _, _]⟩] ?_
    refine sr_ ?_
    refine om_ ?_
    refine os_ (lab_ 0 [_, _, _]) ?_
    refine os_ (still_bld (pl := [(0, _), (1, _)]) (ds := [_, _, _, _, _]) rfl zeroValue39 runUnderlying39 places39_Nm4 ⟨rfl, ot, rfl, ot, trivial⟩ rfl rfl) ?_
    refine ob_ (numD 0 [_]) [.int .i64 0, .int .i64 0, .int .i64 0, .string ⟨#[]⟩, .string ⟨#[]⟩] [_, _, _, _, _] zeroValue39 runUnderlying30 sizeOf39 (fun b39 => ?_)
    refine om_ ?_
    refine on_ [(4, _)] [⟨b39, 39, 5, [_, _, _, _, _]⟩, ⟨b7, 37, 3, [_, _, _]⟩, ⟨b3, 3, 1, [_]⟩, ⟨b2, 45, 4, [_, _, _, _]⟩] ?_
    refine CD.ret ?_
    refine ⟨.inr rfl, _, [_], (List.Sublist.cons_cons _ (List.nil_sublist _)), ret_one results52 (res_tmp le_ lk), ?_⟩
    first | exact RetL.cast (RetL.mk (g := cO) (e := 39) (sz := 5) (ls := [(⟨1, litV n s, ⟨#[]⟩⟩ : OpL)]) (ownL_row (ls := [(⟨1, litV n s, ⟨#[]⟩⟩ : OpL)]) (Nat.le_refl _) (show 1 ≤ maxLen by decide))) (by unfold leafOps litOp; rw [if_neg (by omega)]) | exact RetL.cast (RetL.mk (g := cO) (e := 39) (sz := 5) (ls := [(⟨kk, litV n s, ⟨#[]⟩⟩ : OpL)]) (ownL_row (ls := [(⟨kk, litV n s, ⟨#[]⟩⟩ : OpL)]) (Nat.le_refl _) (show 1 ≤ maxLen by decide))) (by unfold leafOps litOp; rw [if_neg (by omega), show kk = 1 by omega]) | exact RetL.cast (RetL.mk (g := cO) (e := 39) (sz := 5) (ls := [(⟨kk, noVl, nameC (j : Int)⟩ : OpL)]) (ownL_row (ls := [(⟨kk, noVl, nameC (j : Int)⟩ : OpL)]) (Nat.le_refl _) (show 1 ≤ maxLen by decide))) (by unfold leafOps colOp; rw [if_pos (by omega), hj, show kk = 2 by omega])
   refine AStep.alloc (ds := [_, _, _]) rfl wp_ rfl rfl zeroValue37 rfl (fun b7 => ?_)
   refine AD.one (i := 4) kr_ ?_
   refine ac_ call11 (picked_vp G n 40 hn1 hn2 (by decide)) ?_
   refine tk_ 5 rfl (still_bin rfl ot opd_const (bin_sub (wrap_i64 (by omega) (by omega)))) ?_
   refine tk_ 8 rfl (still_bld (pl := [(0, _), (1, _), (2, _)]) (ds := [_, _, _]) rfl zeroValue57 runUnderlying57 places57_Nm4 ⟨rfl, ot, rfl, ot, rfl, ot, trivial⟩ rfl rfl) ?_
   refine AD.one (i := 9) kr_ ?_
   refine ac_ call19 (value_vp ⟨n, pickedF n 40 - 20, s⟩ hvo) ?_
   refine AD.one (i := 11) kr_ ?_
   refine as_ 0 [_, _, _] sizeOf37 ?_
   refine aw_ [(5, _), (7, _)] [⟨b7, 37, 3, [_, _, _]⟩, ⟨b3, 3, 1, [_]⟩, ⟨b2, 45, 4, [_, _, _, _]⟩] ?_
   refine AD.done kr_ ?_
   refine sr_ ?_
   refine os_ (fa_ 2) ?_
   refine os_ (lb_ 0) ?_
   refine oc_ call29 (cut_vp (valueF ⟨n, pickedF n 40 - 20, s⟩).s 4 (by omega)) ?_
   refine os_ (fa_ 2) ?_
   refine ot_ 0 [_, _, _] sizeOf9 ?_
   refine on_ [(5, _), (7, _)] [⟨b7, 37, 3, [_, _, _]⟩, ⟨b3, 3, 1, [_]⟩, ⟨b2, 45, 4, [_, _, _, _]⟩] ?_
   refine sr_ ?_
   refine om_ ?_
   refine os_ (lab_ 0 [_, _, _]) ?_
   refine os_ (still_bld (pl := [(0, _), (1, _)]) (ds := [_, _, _, _, _]) rfl zeroValue39 runUnderlying39 places39_Nm4 ⟨rfl, ot, rfl, ot, trivial⟩ rfl rfl) ?_
   refine ob_ (numD 0 [_]) [.int .i64 0, .int .i64 0, .int .i64 0, .string ⟨#[]⟩, .string ⟨#[]⟩] [_, _, _, _, _] zeroValue39 runUnderlying30 sizeOf39 (fun b39 => ?_)
   refine om_ ?_
   refine on_ [(4, _)] [⟨b39, 39, 5, [_, _, _, _, _]⟩, ⟨b7, 37, 3, [_, _, _]⟩, ⟨b3, 3, 1, [_]⟩, ⟨b2, 45, 4, [_, _, _, _]⟩] ?_
   refine CD.ret ?_
   refine ⟨.inr rfl, _, [_], (List.Sublist.cons_cons _ (List.nil_sublist _)), ret_one results52 (res_tmp le_ lk), ?_⟩
   first | exact RetL.cast (RetL.mk (g := cO) (e := 39) (sz := 5) (ls := [(⟨1, litV n s, ⟨#[]⟩⟩ : OpL)]) (ownL_row (ls := [(⟨1, litV n s, ⟨#[]⟩⟩ : OpL)]) (Nat.le_refl _) (show 1 ≤ maxLen by decide))) (by unfold leafOps litOp; rw [if_neg (by omega)]) | exact RetL.cast (RetL.mk (g := cO) (e := 39) (sz := 5) (ls := [(⟨kk, litV n s, ⟨#[]⟩⟩ : OpL)]) (ownL_row (ls := [(⟨kk, litV n s, ⟨#[]⟩⟩ : OpL)]) (Nat.le_refl _) (show 1 ≤ maxLen by decide))) (by unfold leafOps litOp; rw [if_neg (by omega), show kk = 1 by omega]) | exact RetL.cast (RetL.mk (g := cO) (e := 39) (sz := 5) (ls := [(⟨kk, noVl, nameC (j : Int)⟩ : OpL)]) (ownL_row (ls := [(⟨kk, noVl, nameC (j : Int)⟩ : OpL)]) (Nat.le_refl _) (show 1 ≤ maxLen by decide))) (by unfold leafOps colOp; rw [if_pos (by omega), hj, show kk = 2 by omega])
  have hc1' := hc1
  (try simp only [V.cnd, ne_eq] at hc1')
  refine sr_ ?_
  refine os_ bn_ ?_
  refine om_ ?_
  refine nm_ [2, 5, 6, 19, 40] ?_
  refine CD.cond ot (fun hc2 => ?_) (fun hc2 => ?_)
  ·have hc2' := hc2
   (try simp only [V.cnd, ne_eq] at hc2')
   refine sr_ ?_
   refine om_ ?_
   refine ob_ (numD 0 [_, _, _, _]) [.string ⟨#[]⟩, .string ⟨#[]⟩, .string ⟨#[]⟩, .string ⟨#[]⟩] [_, _, _, _] zeroValue9 runUnderlying29 sizeOf9 (fun b43 => ?_)
   refine og_ 0 43 1 4 ?_
   refine os_ (fa_ 1) ?_
   refine os_ (lb_ 1) ?_
   refine oc_ call11 (hpkn) ?_
   refine os_ (ix_ 1) ?_
   refine os_ (still_r1 (mk := Op.load 9) rfl ot (ld_i isAgg9 (name_at hj4))) ?_
   refine os_ (still_bld (pl := [(0, _), (2, _)]) (ds := [_, _, _, _, _]) rfl zeroValue39 runUnderlying39 places39_Nm4 ⟨rfl, ot, rfl, ot, trivial⟩ rfl rfl) ?_
   refine ob_ (numD 0 [_]) [.int .i64 0, .int .i64 0, .int .i64 0, .string ⟨#[]⟩, .string ⟨#[]⟩] [_, _, _, _, _] zeroValue39 runUnderlying30 sizeOf39 (fun b50 => ?_)
   refine om_ ?_
   refine on_ [(4, _)] [⟨b50, 39, 5, [_, _, _, _, _]⟩, ⟨b3, 3, 1, [_]⟩, ⟨b2, 45, 4, [_, _, _, _]⟩] ?_
   refine CD.ret ?_
   refine ⟨.inr rfl, _, [_], (List.Sublist.cons_cons _ (List.nil_sublist _)), ret_one results52 (res_tmp le_ lk), ?_⟩
   first | exact RetL.cast (RetL.mk (g := cO) (e := 39) (sz := 5) (ls := [(⟨1, litV n s, ⟨#[]⟩⟩ : OpL)]) (ownL_row (ls := [(⟨1, litV n s, ⟨#[]⟩⟩ : OpL)]) (Nat.le_refl _) (show 1 ≤ maxLen by decide))) (by unfold leafOps litOp; rw [if_neg (by omega)]) | exact RetL.cast (RetL.mk (g := cO) (e := 39) (sz := 5) (ls := [(⟨kk, litV n s, ⟨#[]⟩⟩ : OpL)]) (ownL_row (ls := [(⟨kk, litV n s, ⟨#[]⟩⟩ : OpL)]) (Nat.le_refl _) (show 1 ≤ maxLen by decide))) (by unfold leafOps litOp; rw [if_neg (by omega), show kk = 1 by omega]) | exact RetL.cast (RetL.mk (g := cO) (e := 39) (sz := 5) (ls := [(⟨kk, noVl, nameC (j : Int)⟩ : OpL)]) (ownL_row (ls := [(⟨kk, noVl, nameC (j : Int)⟩ : OpL)]) (Nat.le_refl _) (show 1 ≤ maxLen by decide))) (by unfold leafOps colOp; rw [if_pos (by omega), hj, show kk = 2 by omega])
  exact absurd hc2 (by simp at hc0 hc1 hc2; omega)
 exact absurd hg14 (by simp at hg14; omega)

end Go.Proofs.YtjgekbmahhhokaaDoor.Nm

namespace Go.Proofs.YtjgekbmahhhokaaDoor.Nm
open Go.Proofs.Tryd
open Go.RowKit V Pk Vl
variable {G : List (Nat × List Value)}
theorem sub_some {r : Nat} {ts : List Tw} {n : Int} {s : ByteArray} {i : Nat} (hi : i < ts.length) : opsAt r ts[i] = subO r ts n s i := by unfold subO; rw [List.getElem?_eq_getElem hi]
theorem sub_none {r : Nat} {ts : List Tw} {n : Int} {s : ByteArray} {i : Nat} (hi : ts.length ≤ i) : leafOps n i s = subO r ts n s i := by unfold subO; rw [List.getElem?_eq_none hi]
theorem ops_step (r : Nat) (k n : Int) (s : ByteArray) (ts : List Tw) : opsAt (r + 1) (.mk k n s ts) = if 1 + pickedF k 11 = 1 then [litOp n s] else if 1 + pickedF k 11 = 2 then [colOp n]
  else if 1 + pickedF k 11 = 5 ∨ 1 + pickedF k 11 = 11 then subO r ts n s 0 ++ [bareOp (1 + pickedF k 11)] else (subO r ts n s 0 ++ subO r ts n s 1) ++ [bareOp (1 + pickedF k 11)] := rfl

theorem places45_Nm5 : ∀ w, ((#[{ name := "Kind", type := 3, offset := 0, embedded := false, tag := "", pkgPath := "", byteOffset := 0 }, { name := "Int", type := 3, offset := 1, embedded := false, tag := "", pkgPath := "", byteOffset := 8 }, { name := "Text", type := 9, offset := 2, embedded := false, tag := "", pkgPath := "", byteOffset := 16 }, { name := "In", type := 43, offset := 3, embedded := false, tag := "", pkgPath := "", byteOffset := 32 }] : Array Field).mapM fun f => do pure (f.offset, ← sizeOf f.type) : Sem (Array (Nat × Nat))).run Tryd.prog w = .ok #[(0, 1), (1, 1), (2, 1), (3, 1)] w := fun w => by simp [sizeOf3, sizeOf43, sizeOf9]

theorem in_vc (r : Nat) (k n d : Int) (s : ByteArray) (ts : List Tw) (i b2 b3 : Nat) (IH : ∀ t ∈ ts, VC Tryd.prog G 52 [.agg t.cs, .v (.int .i64 (d + 1))] [] (RetO (opsAt r t))) (hn1 : -9223372036854775808 ≤ n) (hn2 : n ≤ 9223372036854775807) (hs : s.size ≤ maxLen) (hd1 : 0 ≤ d) (hd : d ≤ 2) (hi : i ≤ 1) : VC Tryd.prog G 78 [.v (.int .i64 (i : Int)), .v (.pointer (some ⟨b2, 0, none⟩)), .v (.pointer (some ⟨b3, 0, none⟩))] [⟨b3, 3, 1, [.v (.int .i64 d)]⟩, ⟨b2, 45, 4, [.v (.int .i64 k), .v (.int .i64 n), .v (.string s), .list 4 (ts.flatMap Tw.cs) ts.length]⟩] (fun x S => ∃ S1, RetO (subO r ts n s i) x S1 ∧ S = S1 ++ [⟨b3, 3, 1, [.v (.int .i64 d)]⟩, ⟨b2, 45, 4, [.v (.int .i64 k), .v (.int .i64 n), .v (.string s), .list 4 (ts.flatMap Tw.cs) ts.length]⟩]) := by
 refine VC.body func78 rfl ntmps78 le_ fun X0 w0 S00 => ?_
 refine sr_ ?_
 refine om_ ?_
 refine OD.wk (Wk.as_ (n := 25) (l' := [(0, _), (1, _), (2, _)]) (S' := _) rfl rfl sl_) ?_
 refine OD.nil ?_
 refine CD.seq ?_
 refine sr_ ?_
 refine om_ ?_
 refine os_ (fa_ 3) ?_
 refine os_ (lb_ 1) ?_
 refine os_ ln_ ?_
 refine os_ bn_ ?_
 refine OD.wk (Wk.as_ (n := 25) (l' := [(0, _), (1, _), (2, _), (9, _)]) (S' := _) rfl rfl sl_) ?_
 refine OD.nil ?_
 refine CD.cond ot (fun hc0 => ?_) (fun hc0 => ?_)
 ·have hc0' := hc0
  (try simp only [V.cnd, ne_eq] at hc0')
  have hlt : i < ts.length := by omega
  refine CD.seq ?_
  refine CD.draw (bks _) kr_ (fun _ h => h) ?_
  refine tz_ 0 rfl (still_r1 (mk := fun y => Op.fieldAddr 45 y 3) rfl ot (by first | exact fa_ptr (off := 3) runUnderlying45 rfl sizeOf43 rfl | exact fa_iptr (off := 3) runUnderlying45 rfl sizeOf43 rfl)) ?_
  refine AD0.take (i := 1) rfl kr_ kr_ kr_ np_ wp_ rfl (still_r1 (mk := Op.load 43) rfl ot (by first | exact ld_blk (k := 1) rfl rfl isAgg43 rfl | exact ld_fm Tw.cs_len isAgg43 (by first | assumption | omega) rfl | exact ld_fm0 Tw.cs_len isAgg43 (by first | assumption | omega) rfl | exact ld_row (k := 0) Tw.cs_len rfl rfl rfl isAgg43 (by first | assumption | omega) rfl | exact ld_row0 (k := 0) Tw.cs_len rfl rfl rfl isAgg43 (by first | assumption | omega) rfl | exact ld_row (k := 1) Tw.cs_len rfl rfl rfl isAgg43 (by first | assumption | omega) rfl | exact ld_row0 (k := 1) Tw.cs_len rfl rfl rfl isAgg43 (by first | assumption | omega) rfl | exact ld_i isAgg43 rfl)) (by first | exact trivial | exact safe_blk (k0 := 0) rfl rfl | exact safe_blk (k0 := 1) rfl rfl) ?_
  refine tz_ 2 rfl (still_mv rfl ot) ?_
  refine tz_ 3 rfl (still_r2 (mk := Op.indexAddr 43) rfl ot ot (by first | exact ix_list runUnderlying43 sizeOf45 rfl (by first | assumption | omega) | exact ix_list (j := Int.toNat _) runUnderlying43 sizeOf45 (Int.toNat_of_nonneg (by omega)).symm (by omega) | exact ix_row runUnderlying43 sizeOf45 rfl (by first | assumption | omega) | exact ix_row (j := Int.toNat _) runUnderlying43 sizeOf45 (Int.toNat_of_nonneg (by omega)).symm (by omega))) ?_
  refine AD0.take (i := 4) rfl kr_ kr_ kr_ np_ wp_ rfl (still_r1 (mk := Op.load 45) rfl ot (by first | exact ld_blks (k := 0) (ds := [_, _, _, _]) rfl rfl isAgg45 sizeOf45 rfl rfl | exact ld_blks (k := 1) (ds := [_, _, _, _]) rfl rfl isAgg45 sizeOf45 rfl rfl | exact ld_fms Tw.cs_len isAgg45 sizeOf45 (by first | assumption | omega) | exact ld_rows (k := 0) Tw.cs_len rfl rfl rfl isAgg45 sizeOf45 (by first | assumption | omega) | exact ld_rows (k := 1) Tw.cs_len rfl rfl rfl isAgg45 sizeOf45 (by first | assumption | omega) | exact ld_is (ds := [_, _, _, _]) isAgg45 sizeOf45 rfl rfl)) (by first | exact trivial | exact safe_blk (k0 := 0) rfl rfl | exact safe_blk (k0 := 1) rfl rfl) ?_
  refine AD0.take (i := 5) rfl kr_ kr_ kr_ np_ wp_ rfl (still_r1 (mk := Op.load 3) rfl ot (by first | exact ld_blk (k := 0) rfl rfl isAgg3 rfl | exact ld_fm Tw.cs_len isAgg3 (by first | assumption | omega) rfl | exact ld_fm0 Tw.cs_len isAgg3 (by first | assumption | omega) rfl | exact ld_row (k := 0) Tw.cs_len rfl rfl rfl isAgg3 (by first | assumption | omega) rfl | exact ld_row0 (k := 0) Tw.cs_len rfl rfl rfl isAgg3 (by first | assumption | omega) rfl | exact ld_row (k := 1) Tw.cs_len rfl rfl rfl isAgg3 (by first | assumption | omega) rfl | exact ld_row0 (k := 1) Tw.cs_len rfl rfl rfl isAgg3 (by first | assumption | omega) rfl | exact ld_i isAgg3 rfl)) (by first | exact trivial | exact safe_blk (k0 := 0) rfl rfl | exact safe_blk (k0 := 1) rfl rfl) ?_
  refine tz_ 6 rfl (still_bin rfl ot opd_const (bin_add (wrap_i64 (by omega) (by omega)))) ?_
  refine AD0.later rfl ?_
  refine AD.one (i := 7) kr_ ?_
  refine AStep.call rfl wp_ rfl rfl rfl call52 (IH _ (List.getElem_mem hlt)) ⟨ot, ot, trivial⟩ (perm_none _) (fun _ h => h) ?_
  rintro _ S17 ⟨ad17, cp17, rfl, ho17⟩
  refine tk_ 8 rfl (still_as rfl ot) ?_
  refine AD.wk (y := ⟨25, [(4, _)], ((S17 ++ [_, _]))⟩) (Wk.as_ rfl rfl sl_) rfl ?_
  refine AD.done kr_ ?_
  refine CD.ret ?_
  refine ⟨.inr rfl, _, _, (List.Sublist.refl _), ret_one results78 (res_tmp le_ lk), ?_⟩
  first | exact ⟨_, RetL.cast (RetL.mk ho17) (sub_some hlt), rfl⟩ | exact ⟨_, RetL.cast (RetL.mk ho24) (sub_none (by omega)), rfl⟩
 have hc0' := hc0
 (try simp only [V.cnd, ne_eq] at hc0')
 refine CD.skip ?_
 refine sr_ ?_
 refine os_ (fa_ 1) ?_
 refine os_ (lb_ 1) ?_
 refine om_ ?_
 refine os_ (fa_ 2) ?_
 refine os_ (lb_ 1) ?_
 refine os_ (still_bld (pl := [(0, _), (1, _), (2, _)]) (ds := [_, _, _, _]) rfl zeroValue45 runUnderlying45 places45_Nm5 ⟨rfl, ot, rfl, ot, rfl, ot, trivial⟩ rfl rfl) ?_
 refine OD.call wp_ rfl rfl rfl call52 (leaf_vc n (i : Int) 9 s (.v (.slice none 0 0)) rfl hn1 hn2 (by omega) (by omega) hs (by decide)) ⟨ot, opd_const, trivial⟩ (perm_none _) ?_
 rintro _ S24 ⟨ad24, cp24, rfl, ho24⟩
 refine om_ ?_
 refine OD.wk (Wk.as_ (n := 25) (l' := [(4, _)]) (S' := _) rfl rfl sl_) ?_
 refine OD.nil ?_
 refine CD.ret ?_
 refine ⟨.inr rfl, _, _, (List.Sublist.refl _), ret_one results78 (res_tmp le_ lk), ?_⟩
 first | exact ⟨_, RetL.cast (RetL.mk ho17) (sub_some hlt), rfl⟩ | exact ⟨_, RetL.cast (RetL.mk ho24) (sub_none (by omega)), rfl⟩

theorem info39_Nm5 : (Tryd.prog.info? 39).map (fun i => (i.zero, i.size, i.bytes)) = some (some (.agg #[.int .i64 0, .int .i64 0, .int .i64 0, .string ⟨#[]⟩, .string ⟨#[]⟩]), 5, 56) := by kernel_rfl

theorem places39_Nm5 : ∀ w, ((#[{ name := "Kind", type := 3, offset := 0, embedded := false, tag := "", pkgPath := "", byteOffset := 0 }, { name := "Value", type := 37, offset := 1, embedded := false, tag := "", pkgPath := "", byteOffset := 8 }, { name := "Name", type := 9, offset := 4, embedded := false, tag := "", pkgPath := "", byteOffset := 40 }] : Array Field).mapM fun f => do pure (f.offset, ← sizeOf f.type) : Sem (Array (Nat × Nat))).run Tryd.prog w = .ok #[(0, 1), (1, 3), (4, 1)] w := fun w => by simp [sizeOf3, sizeOf37, sizeOf9]

theorem places57_Nm5 : ∀ w, ((#[{ name := "Kind", type := 3, offset := 0, embedded := false, tag := "", pkgPath := "", byteOffset := 0 }, { name := "Int", type := 3, offset := 1, embedded := false, tag := "", pkgPath := "", byteOffset := 8 }, { name := "Text", type := 9, offset := 2, embedded := false, tag := "", pkgPath := "", byteOffset := 16 }] : Array Field).mapM fun f => do pure (f.offset, ← sizeOf f.type) : Sem (Array (Nat × Nat))).run Tryd.prog w = .ok #[(0, 1), (1, 1), (2, 1)] w := fun w => by simp [sizeOf3, sizeOf9]

theorem step_vc (r : Nat) (hr : r ≤ 2) (k n d : Int) (s : ByteArray) (ts : List Tw) (IH : ∀ t ∈ ts, VC Tryd.prog G 52 [.agg t.cs, .v (.int .i64 (d + 1))] [] (RetO (opsAt r t))) (hk1 : -9223372036854775808 ≤ k) (hk2 : k ≤ 9223372036854775807) (hn1 : -9223372036854775808 ≤ n) (hn2 : n ≤ 9223372036854775807) (hs : s.size ≤ maxLen) (hd1 : 0 ≤ d) (hd : d ≤ 2) : VC Tryd.prog G 52 [.agg [.v (.int .i64 k), .v (.int .i64 n), .v (.string s), .list 4 (ts.flatMap Tw.cs) ts.length], .v (.int .i64 d)] [] (RetO (opsAt (r + 1) (.mk k n s ts))) := by
 refine VC.body func52 rfl ntmps52 le_ fun X0 w0 S00 => ?_
 have hpk := pickedF_bd k (by decide : (1 : Int) ≤ 11)
 have hpn := pickedF_bd n (by decide : (1 : Int) ≤ 40)
 have hpc := pickedF_bd n (by decide : (1 : Int) ≤ 4)
 obtain ⟨j, hj⟩ := Int.eq_ofNat_of_zero_le hpc.1
 have hj4 : j < 4 := by omega
 have hpkn := picked_vp G n 4 hn1 hn2 (by decide)
 rw [hj] at hpkn
 have hvo : (⟨n, pickedF n 40 - 20, s⟩ : Vl).Ok := ⟨hn1, hn2, by show _ ≤ pickedF n 40 - 20; omega, by show pickedF n 40 - 20 ≤ _; omega, hs⟩
 have hvs := value_size ⟨n, pickedF n 40 - 20, s⟩
 have hml : 100 ≤ maxLen := by decide
 obtain ⟨kk, hkk⟩ : ∃ kk : Int, 1 + pickedF k 11 = kk := ⟨_, rfl⟩
 have hl0 := sub_len r ts n s 0
 have hl1 := sub_len r ts n s 1
 have h2p : 2 ^ (r + 1) ≤ 8 := Nat.pow_le_pow_right (by decide) (show r + 1 ≤ 3 by omega)
 refine sr_ ?_
 refine OD.box (ds := [_, _, _, _]) wp_ rfl rfl ot rfl rfl (fun b2 => ?_)
 refine OD.box (ds := [_]) wp_ rfl rfl ot rfl rfl (fun b3 => ?_)
 refine om_ ?_
 refine on_ [(2, _), (3, _)] [⟨b3, 3, 1, [_]⟩, ⟨b2, 45, 4, [_, _, _, _]⟩] ?_
 refine sr_ ?_
 refine os_ (fa_ 0) ?_
 refine os_ (lb_ 1) ?_
 refine oc_ call11 (picked_vp G k 11 hk1 hk2 (by decide)) ?_
 refine os_ (still_bin (r := .int .i64 kk) rfl opd_const ot (bin_add (by rw [hkk]; exact wrap_i64 (by omega) (by omega)))) ?_
 refine om_ ?_
 refine on_ [(2, _), (3, _), (5, _)] [⟨b3, 3, 1, [_]⟩, ⟨b2, 45, 4, [_, _, _, _]⟩] ?_
 refine CD.seq ?_
 refine sr_ ?_
 refine os_ (lb_ 0) ?_
 refine os_ bn_ ?_
 refine om_ ?_
 refine OD.split (t := 14) lk (fun hg14 => ?_) (fun hg14 => ?_)
 ·exact absurd hg14 (by simp at hg14; omega)
 have hg14' := hg14; (try simp only [V.cnd, ne_eq] at hg14')
 refine sk_ ?_
 refine sk_ ?_
 refine os_ pkF_ ?_
 refine nm_ [2, 3, 5, 17] ?_
 refine CD.condF ot (by first | rfl | assumption) ?_
 refine CD.skip ?_
 refine sr_ ?_
 refine os_ (still_fn (ds := [_, _]) rfl ⟨ot, ot, trivial⟩) ?_
 refine om_ ?_
 refine on_ [(2, _), (5, _), (6, _)] [⟨b3, 3, 1, [_]⟩, ⟨b2, 45, 4, [_, _, _, _]⟩] ?_
 refine CD.seq ?_
 refine sr_ ?_
 refine om_ ?_
 refine nm_ [2, 5, 6, 19] ?_
 refine CD.block ?_
 refine sr_ ?_
 refine os_ bn_ ?_
 refine om_ ?_
 refine nm_ [2, 5, 6, 19, 20] ?_
 refine CD.cond ot (fun hc1 => ?_) (fun hc1 => ?_)
 ·have hc1' := hc1
  (try simp only [V.cnd, ne_eq] at hc1')
  refine CD.seq ?_
  refine CD.draw (bks _) kr_ (fun _ h => h) ?_
  refine tz_ 0 rfl (still_r1 (mk := fun y => Op.fieldAddr 45 y 1) rfl ot (by first | exact fa_ptr (off := 1) runUnderlying45 rfl sizeOf3 rfl | exact fa_iptr (off := 1) runUnderlying45 rfl sizeOf3 rfl)) ?_
  refine AD0.take (i := 1) rfl kr_ kr_ kr_ np_ wp_ rfl (still_r1 (mk := Op.load 3) rfl ot (by first | exact ld_blk (k := 1) rfl rfl isAgg3 rfl | exact ld_i isAgg3 rfl)) (by first | exact trivial | exact safe_blk (k0 := 0) rfl rfl | exact safe_blk (k0 := 1) rfl rfl) ?_
  refine tz_ 2 rfl (still_r1 (mk := fun y => Op.fieldAddr 45 y 1) rfl ot (by first | exact fa_ptr (off := 1) runUnderlying45 rfl sizeOf3 rfl | exact fa_iptr (off := 1) runUnderlying45 rfl sizeOf3 rfl)) ?_
  refine AD0.take (i := 3) rfl kr_ kr_ kr_ np_ wp_ rfl (still_r1 (mk := Op.load 3) rfl ot (by first | exact ld_blk (k := 1) rfl rfl isAgg3 rfl | exact ld_i isAgg3 rfl)) (by first | exact trivial | exact safe_blk (k0 := 0) rfl rfl | exact safe_blk (k0 := 1) rfl rfl) ?_
  refine tz_ 6 rfl (still_r1 (mk := fun y => Op.fieldAddr 45 y 2) rfl ot (by first | exact fa_ptr (off := 2) runUnderlying45 rfl sizeOf9 rfl | exact fa_iptr (off := 2) runUnderlying45 rfl sizeOf9 rfl)) ?_
  refine AD0.take (i := 7) rfl kr_ kr_ kr_ np_ wp_ rfl (still_r1 (mk := Op.load 9) rfl ot (by first | exact ld_blk (k := 1) rfl rfl isAgg9 rfl | exact ld_i isAgg9 rfl)) (by first | exact trivial | exact safe_blk (k0 := 0) rfl rfl | exact safe_blk (k0 := 1) rfl rfl) ?_
  refine AD0.later rfl ?_
  refine AD.two (i := 4) (j := 10) kr_ ?_ ?_
  ·skip
   refine ac_ call11 (picked_vp G n 40 hn1 hn2 (by decide)) ?_
   refine tk_ 5 rfl (still_bin rfl ot opd_const (bin_sub (wrap_i64 (by omega) (by omega)))) ?_
   refine tk_ 8 rfl (still_bld (pl := [(0, _), (1, _), (2, _)]) (ds := [_, _, _]) rfl zeroValue57 runUnderlying57 places57_Nm5 ⟨rfl, ot, rfl, ot, rfl, ot, trivial⟩ rfl rfl) ?_
   refine AD.two (i := 9) (j := 10) kr_ ?_ ?_
   ·skip
    refine ac_ call19 (value_vp ⟨n, pickedF n 40 - 20, s⟩ hvo) ?_
    refine AD.one (i := 10) kr_ ?_
    refine AStep.alloc (ds := [_, _, _]) rfl wp_ rfl rfl zeroValue37 rfl (fun b7 => ?_)
    refine AD.one (i := 11) kr_ ?_
    refine as_ 0 [_, _, _] sizeOf37 ?_
    refine aw_ [(5, _), (7, _)] [⟨b7, 37, 3, [_, _, _]⟩, ⟨b3, 3, 1, [_]⟩, ⟨b2, 45, 4, [_, _, _, _]⟩] ?_
    refine AD.done kr_ ?_
    refine sr_ ?_
    refine os_ (fa_ 2) ?_
    refine os_ (lb_ 0) ?_
    refine oc_ call29 (cut_vp (valueF ⟨n, pickedF n 40 - 20, s⟩).s 4 (by omega)) ?_
    refine os_ (fa_ 2) ?_
    refine ot_ 0 [_, _, _] sizeOf9 ?_
    refine on_ [(5, _), (7, _)] [⟨b7, 37, 3, [_, _, _]⟩, ⟨b3, 3, 1, [_]⟩, ⟨b2, 45, 4, [_, _, _, _]⟩] ?_
    refine sr_ ?_
    refine om_ ?_
    refine os_ (lab_ 0 [_, _, _]) ?_
    refine os_ (still_bld (pl := [(0, _), (1, _)]) (ds := [_, _, _, _, _]) rfl zeroValue39 runUnderlying39 places39_Nm5 ⟨rfl, ot, rfl, ot, trivial⟩ rfl rfl) ?_
    refine ob_ (numD 0 [_]) [.int .i64 0, .int .i64 0, .int .i64 0, .string ⟨#[]⟩, .string ⟨#[]⟩] [_, _, _, _, _] zeroValue39 runUnderlying30 sizeOf39 (fun b39 => ?_)
    refine om_ ?_
    refine on_ [(4, _)] [⟨b39, 39, 5, [_, _, _, _, _]⟩, ⟨b7, 37, 3, [_, _, _]⟩, ⟨b3, 3, 1, [_]⟩, ⟨b2, 45, 4, [_, _, _, _]⟩] ?_
    refine CD.ret ?_
    refine ⟨.inr rfl, _, [_], (List.Sublist.cons_cons _ (List.nil_sublist _)), ret_one results52 (res_tmp le_ lk), ?_⟩
    first | exact RetL.cast (RetL.mk (g := cO) (e := 39) (sz := 5) (ls := [(⟨kk, litV n s, ⟨#[]⟩⟩ : OpL)]) (ownL_row (ls := [(⟨kk, litV n s, ⟨#[]⟩⟩ : OpL)]) (Nat.le_refl _) (show 1 ≤ maxLen by decide))) (by rw [ops_step, hkk, if_pos (by omega)]; unfold litOp; rw [show kk = 1 by omega]) | exact RetL.cast (RetL.mk (g := cO) (e := 39) (sz := 5) (ls := [(⟨kk, noVl, nameC (j : Int)⟩ : OpL)]) (ownL_row (ls := [(⟨kk, noVl, nameC (j : Int)⟩ : OpL)]) (Nat.le_refl _) (show 1 ≤ maxLen by decide))) (by rw [ops_step, hkk, if_neg (by omega), if_pos (by omega)]; unfold colOp; rw [hj, show kk = 2 by omega])
   refine AStep.alloc (ds := [_, _, _]) rfl wp_ rfl rfl zeroValue37 rfl (fun b7 => ?_)
   refine AD.one (i := 9) kr_ ?_
   refine ac_ call19 (value_vp ⟨n, pickedF n 40 - 20, s⟩ hvo) ?_
   refine AD.one (i := 11) kr_ ?_
   refine as_ 0 [_, _, _] sizeOf37 ?_
   refine aw_ [(5, _), (7, _)] [⟨b7, 37, 3, [_, _, _]⟩, ⟨b3, 3, 1, [_]⟩, ⟨b2, 45, 4, [_, _, _, _]⟩] ?_
   refine AD.done kr_ ?_
   refine sr_ ?_
   refine os_ (fa_ 2) ?_
   refine os_ (lb_ 0) ?_
   refine oc_ call29 (cut_vp (valueF ⟨n, pickedF n 40 - 20, s⟩).s 4 (by omega)) ?_
   refine os_ (fa_ 2) ?_
   refine ot_ 0 [_, _, _] sizeOf9 ?_
   refine on_ [(5, _), (7, _)] [⟨b7, 37, 3, [_, _, _]⟩, ⟨b3, 3, 1, [_]⟩, ⟨b2, 45, 4, [_, _, _, _]⟩] ?_
   refine sr_ ?_
   refine om_ ?_
   refine os_ (lab_ 0 [_, _, _]) ?_
   refine os_ (still_bld (pl := [(0, _), (1, _)]) (ds := [_, _, _, _, _]) rfl zeroValue39 runUnderlying39 places39_Nm5 ⟨rfl, ot, rfl, ot, trivial⟩ rfl rfl) ?_
   refine ob_ (numD 0 [_]) [.int .i64 0, .int .i64 0, .int .i64 0, .string ⟨#[]⟩, .string ⟨#[]⟩] [_, _, _, _, _] zeroValue39 runUnderlying30 sizeOf39 (fun b39 => ?_)
   refine om_ ?_
   refine on_ [(4, _)] [⟨b39, 39, 5, [_, _, _, _, _]⟩, ⟨b7, 37, 3, [_, _, _]⟩, ⟨b3, 3, 1, [_]⟩, ⟨b2, 45, 4, [_, _, _, _]⟩] ?_
   refine CD.ret ?_
   refine ⟨.inr rfl, _, [_], (List.Sublist.cons_cons _ (List.nil_sublist _)), ret_one results52 (res_tmp le_ lk), ?_⟩
   first | exact RetL.cast (RetL.mk (g := cO) (e := 39) (sz := 5) (ls := [(⟨kk, litV n s, ⟨#[]⟩⟩ : OpL)]) (ownL_row (ls := [(⟨kk, litV n s, ⟨#[]⟩⟩ : OpL)]) (Nat.le_refl _) (show 1 ≤ maxLen by decide))) (by rw [ops_step, hkk, if_pos (by omega)]; unfold litOp; rw [show kk = 1 by omega]) | exact RetL.cast (RetL.mk (g := cO) (e := 39) (sz := 5) (ls := [(⟨kk, noVl, nameC (j : Int)⟩ : OpL)]) (ownL_row (ls := [(⟨kk, noVl, nameC (j : Int)⟩ : OpL)]) (Nat.le_refl _) (show 1 ≤ maxLen by decide))) (by rw [ops_step, hkk, if_neg (by omega), if_pos (by omega)]; unfold colOp; rw [hj, show kk = 2 by omega])
  refine AStep.alloc (ds := [_, _, _]) rfl wp_ rfl rfl zeroValue37 rfl (fun b7 => ?_)
  refine AD.one (i := 4) kr_ ?_
  refine ac_ call11 (picked_vp G n 40 hn1 hn2 (by decide)) ?_
  refine tk_ 5 rfl (still_bin rfl ot opd_const (bin_sub (wrap_i64 (by omega) (by omega)))) ?_
  refine tk_ 8 rfl (still_bld (pl := [(0, _), (1, _), (2, _)]) (ds := [_, _, _]) rfl zeroValue57 runUnderlying57 places57_Nm5 ⟨rfl, ot, rfl, ot, rfl, ot, trivial⟩ rfl rfl) ?_
  refine AD.one (i := 9) kr_ ?_
  refine ac_ call19 (value_vp ⟨n, pickedF n 40 - 20, s⟩ hvo) ?_
  refine AD.one (i := 11) kr_ ?_
  refine as_ 0 [_, _, _] sizeOf37 ?_
  refine aw_ [(5, _), (7, _)] [⟨b7, 37, 3, [_, _, _]⟩, ⟨b3, 3, 1, [_]⟩, ⟨b2, 45, 4, [_, _, _, _]⟩] ?_
  refine AD.done kr_ ?_
  refine sr_ ?_
  refine os_ (fa_ 2) ?_
  refine os_ (lb_ 0) ?_
  refine oc_ call29 (cut_vp (valueF ⟨n, pickedF n 40 - 20, s⟩).s 4 (by omega)) ?_
  refine os_ (fa_ 2) ?_
  refine ot_ 0 [_, _, _] sizeOf9 ?_
  refine on_ [(5, _), (7, _)] [⟨b7, 37, 3, [_, _, _]⟩, ⟨b3, 3, 1, [_]⟩, ⟨b2, 45, 4, [_, _, _, _]⟩] ?_
  refine sr_ ?_
  refine om_ ?_
  refine os_ (lab_ 0 [_, _, _]) ?_
  refine os_ (still_bld (pl := [(0, _), (1, _)]) (ds := [_, _, _, _, _]) rfl zeroValue39 runUnderlying39 places39_Nm5 ⟨rfl, ot, rfl, ot, trivial⟩ rfl rfl) ?_
  refine ob_ (numD 0 [_]) [.int .i64 0, .int .i64 0, .int .i64 0, .string ⟨#[]⟩, .string ⟨#[]⟩] [_, _, _, _, _] zeroValue39 runUnderlying30 sizeOf39 (fun b39 => ?_)
  refine om_ ?_
  refine on_ [(4, _)] [⟨b39, 39, 5, [_, _, _, _, _]⟩, ⟨b7, 37, 3, [_, _, _]⟩, ⟨b3, 3, 1, [_]⟩, ⟨b2, 45, 4, [_, _, _, _]⟩] ?_
  refine CD.ret ?_
  refine ⟨.inr rfl, _, [_], (List.Sublist.cons_cons _ (List.nil_sublist _)), ret_one results52 (res_tmp le_ lk), ?_⟩
  first | exact RetL.cast (RetL.mk (g := cO) (e := 39) (sz := 5) (ls := [(⟨kk, litV n s, ⟨#[]⟩⟩ : OpL)]) (ownL_row (ls := [(⟨kk, litV n s, ⟨#[]⟩⟩ : OpL)]) (Nat.le_refl _) (show 1 ≤ maxLen by decide))) (by rw [ops_step, hkk, if_pos (by omega)]; unfold litOp; rw [show kk = 1 by omega]) | exact RetL.cast (RetL.mk (g := cO) (e := 39) (sz := 5) (ls := [(⟨kk, noVl, nameC (j : Int)⟩ : OpL)]) (ownL_row (ls := [(⟨kk, noVl, nameC (j : Int)⟩ : OpL)]) (Nat.le_refl _) (show 1 ≤ maxLen by decide))) (by rw [ops_step, hkk, if_neg (by omega), if_pos (by omega)]; unfold colOp; rw [hj, show kk = 2 by omega])
 have hc1' := hc1
 (try simp only [V.cnd, ne_eq] at hc1')
 refine sr_ ?_
 refine os_ bn_ ?_
 refine om_ ?_
 refine nm_ [2, 5, 6, 19, 40] ?_
 refine CD.cond ot (fun hc2 => ?_) (fun hc2 => ?_)
 ·have hc2' := hc2
  (try simp only [V.cnd, ne_eq] at hc2')
  refine sr_ ?_
  refine om_ ?_
  refine ob_ (numD 0 [_, _, _, _]) [.string ⟨#[]⟩, .string ⟨#[]⟩, .string ⟨#[]⟩, .string ⟨#[]⟩] [_, _, _, _] zeroValue9 runUnderlying29 sizeOf9 (fun b43 => ?_)
  refine og_ 0 43 1 4 ?_
  refine os_ (fa_ 1) ?_
  refine os_ (lb_ 1) ?_
  refine oc_ call11 (hpkn) ?_
  refine os_ (ix_ 1) ?_
  refine os_ (still_r1 (mk := Op.load 9) rfl ot (ld_i isAgg9 (name_at hj4))) ?_
  refine os_ (still_bld (pl := [(0, _), (2, _)]) (ds := [_, _, _, _, _]) rfl zeroValue39 runUnderlying39 places39_Nm5 ⟨rfl, ot, rfl, ot, trivial⟩ rfl rfl) ?_
  refine ob_ (numD 0 [_]) [.int .i64 0, .int .i64 0, .int .i64 0, .string ⟨#[]⟩, .string ⟨#[]⟩] [_, _, _, _, _] zeroValue39 runUnderlying30 sizeOf39 (fun b50 => ?_)
  refine om_ ?_
  refine on_ [(4, _)] [⟨b50, 39, 5, [_, _, _, _, _]⟩, ⟨b3, 3, 1, [_]⟩, ⟨b2, 45, 4, [_, _, _, _]⟩] ?_
  refine CD.ret ?_
  refine ⟨.inr rfl, _, [_], (List.Sublist.cons_cons _ (List.nil_sublist _)), ret_one results52 (res_tmp le_ lk), ?_⟩
  first | exact RetL.cast (RetL.mk (g := cO) (e := 39) (sz := 5) (ls := [(⟨kk, litV n s, ⟨#[]⟩⟩ : OpL)]) (ownL_row (ls := [(⟨kk, litV n s, ⟨#[]⟩⟩ : OpL)]) (Nat.le_refl _) (show 1 ≤ maxLen by decide))) (by rw [ops_step, hkk, if_pos (by omega)]; unfold litOp; rw [show kk = 1 by omega]) | exact RetL.cast (RetL.mk (g := cO) (e := 39) (sz := 5) (ls := [(⟨kk, noVl, nameC (j : Int)⟩ : OpL)]) (ownL_row (ls := [(⟨kk, noVl, nameC (j : Int)⟩ : OpL)]) (Nat.le_refl _) (show 1 ≤ maxLen by decide))) (by rw [ops_step, hkk, if_neg (by omega), if_pos (by omega)]; unfold colOp; rw [hj, show kk = 2 by omega])
 have hc2' := hc2
 (try simp only [V.cnd, ne_eq] at hc2')
 refine CD.seq ?_
 refine sr_ ?_
 refine os_ bn_ ?_
 refine om_ ?_
 refine nm_ [5, 6, 19, 51] ?_
 refine CD.cond ot (fun hc3 => ?_) (fun hc3 => ?_)
 ·have hc3' := hc3
  (try simp only [V.cnd, ne_eq] at hc3')
  refine CD.skip ?_
  refine CD.condT ot (by first | rfl | assumption) ?_
  refine sr_ ?_
  refine om_ ?_
  refine OD.callv (f := 78) (args := [_]) (all := [_, _, _]) (Sf := [_, _]) (R := []) wp_ rfl rfl ot call78 (in_vc r k n d s ts 0 b2 b3 IH hn1 hn2 hs hd1 hd (by decide)) rfl ⟨opd_const, trivial⟩ (List.Perm.refl _) ?_
  rintro _ _ ⟨S55, ⟨ad55, cp55, rfl, ho55⟩, rfl⟩
  refine OD.perm (perm_p11 (A := [_, _])) ?_
  refine om_ ?_
  refine os_ (still_bld (pl := [(0, _)]) (ds := [_, _, _, _, _]) rfl zeroValue39 runUnderlying39 places39_Nm5 ⟨rfl, ot, trivial⟩ rfl rfl) ?_
  refine ob_ (numD 0 [_]) [.int .i64 0, .int .i64 0, .int .i64 0, .string ⟨#[]⟩, .string ⟨#[]⟩] [_, _, _, _, _] zeroValue39 runUnderlying30 sizeOf39 (fun b58 => ?_)
  refine og_ 0 58 5 1 ?_
  refine OD.appendG (ls := (subO r ts n s 0)) (new := [(⟨kk, noVl, ⟨#[]⟩⟩ : OpL)]) (Sq := S55) cO_len cO_one wp_ rfl rfl underlying30 info39_Nm5 rfl (by decide) ot ho55 (perm_r11 (A := [_, _])) ot (by simp) (by have hmx : maxLen = 9223372036854775807 := rfl; (try simp only [List.length_append, List.length_cons, List.length_nil]); omega) (by have hmx : maxLen = 9223372036854775807 := rfl; (try simp only [List.length_append, List.length_cons, List.length_nil]); omega) (fun b59 cp59 h159 h259 => ?_)
  refine OD.perm (perm_q11 (S1 := [⟨b59, 39, cp59 * 5, List.flatMap cO ((subO r ts n s 0) ++ [(⟨kk, noVl, ⟨#[]⟩⟩ : OpL)])⟩]) (A := [_, _])) ?_
  refine om_ ?_
  refine OD.wk (Wk.as_ (n := 69) (l' := [(4, _)]) (S' := (⟨b3, 3, 1, [_]⟩ :: ⟨b2, 45, 4, [_, _, _, _]⟩ :: [⟨b59, 39, cp59 * 5, List.flatMap cO ((subO r ts n s 0) ++ [(⟨kk, noVl, ⟨#[]⟩⟩ : OpL)])⟩])) rfl rfl sl_) ?_
  refine OD.nil ?_
  refine CD.ret ?_
  refine ⟨.inr rfl, _, [⟨b59, 39, cp59 * 5, List.flatMap cO ((subO r ts n s 0) ++ [(⟨kk, noVl, ⟨#[]⟩⟩ : OpL)])⟩], sv_, ret_one results52 (res_tmp le_ lk), ?_⟩
  exact RetL.cast (RetL.mk (ownL_row h159 h259)) (by rw [ops_step, hkk, if_neg (by omega), if_neg (by omega), if_pos (by omega)]; rfl)
 have hc3' := hc3
 (try simp only [V.cnd, ne_eq] at hc3')
 refine CD.region ?_
 refine os_ bn_ ?_
 refine om_ ?_
 refine nm_ [5, 6, 51] ?_
 refine CD.cond ot (fun hc4 => ?_) (fun hc4 => ?_)
 ·have hc4' := hc4
  (try simp only [V.cnd, ne_eq] at hc4')
  refine sr_ ?_
  refine om_ ?_
  refine OD.callv (f := 78) (args := [_]) (all := [_, _, _]) (Sf := [_, _]) (R := []) wp_ rfl rfl ot call78 (in_vc r k n d s ts 0 b2 b3 IH hn1 hn2 hs hd1 hd (by decide)) rfl ⟨opd_const, trivial⟩ (List.Perm.refl _) ?_
  rintro _ _ ⟨S55, ⟨ad55, cp55, rfl, ho55⟩, rfl⟩
  refine OD.perm (perm_p11 (A := [_, _])) ?_
  refine om_ ?_
  refine os_ (still_bld (pl := [(0, _)]) (ds := [_, _, _, _, _]) rfl zeroValue39 runUnderlying39 places39_Nm5 ⟨rfl, ot, trivial⟩ rfl rfl) ?_
  refine ob_ (numD 0 [_]) [.int .i64 0, .int .i64 0, .int .i64 0, .string ⟨#[]⟩, .string ⟨#[]⟩] [_, _, _, _, _] zeroValue39 runUnderlying30 sizeOf39 (fun b58 => ?_)
  refine og_ 0 58 5 1 ?_
  refine OD.appendG (ls := (subO r ts n s 0)) (new := [(⟨kk, noVl, ⟨#[]⟩⟩ : OpL)]) (Sq := S55) cO_len cO_one wp_ rfl rfl underlying30 info39_Nm5 rfl (by decide) ot ho55 (perm_r11 (A := [_, _])) ot (by simp) (by have hmx : maxLen = 9223372036854775807 := rfl; (try simp only [List.length_append, List.length_cons, List.length_nil]); omega) (by have hmx : maxLen = 9223372036854775807 := rfl; (try simp only [List.length_append, List.length_cons, List.length_nil]); omega) (fun b59 cp59 h159 h259 => ?_)
  refine OD.perm (perm_q11 (S1 := [⟨b59, 39, cp59 * 5, List.flatMap cO ((subO r ts n s 0) ++ [(⟨kk, noVl, ⟨#[]⟩⟩ : OpL)])⟩]) (A := [_, _])) ?_
  refine om_ ?_
  refine OD.wk (Wk.as_ (n := 69) (l' := [(4, _)]) (S' := (⟨b3, 3, 1, [_]⟩ :: ⟨b2, 45, 4, [_, _, _, _]⟩ :: [⟨b59, 39, cp59 * 5, List.flatMap cO ((subO r ts n s 0) ++ [(⟨kk, noVl, ⟨#[]⟩⟩ : OpL)])⟩])) rfl rfl sl_) ?_
  refine OD.nil ?_
  refine CD.ret ?_
  refine ⟨.inr rfl, _, [⟨b59, 39, cp59 * 5, List.flatMap cO ((subO r ts n s 0) ++ [(⟨kk, noVl, ⟨#[]⟩⟩ : OpL)])⟩], sv_, ret_one results52 (res_tmp le_ lk), ?_⟩
  exact RetL.cast (RetL.mk (ownL_row h159 h259)) (by rw [ops_step, hkk, if_neg (by omega), if_neg (by omega), if_pos (by omega)]; rfl)
 have hc4' := hc4
 (try simp only [V.cnd, ne_eq] at hc4')
 refine CD.skip ?_
 refine sr_ ?_
 refine om_ ?_
 refine OD.callv (f := 78) (args := [_]) (all := [_, _, _]) (Sf := [_, _]) (R := []) wp_ rfl rfl ot call78 (in_vc r k n d s ts 0 b2 b3 IH hn1 hn2 hs hd1 hd (by decide)) rfl ⟨opd_const, trivial⟩ (List.Perm.refl _) ?_
 rintro _ _ ⟨S61, ⟨ad61, cp61, rfl, ho61⟩, rfl⟩
 refine OD.perm (perm_p11 (A := [_, _])) ?_
 refine om_ ?_
 refine OD.callv (f := 78) (args := [_]) (all := [_, _, _]) (Sf := [_, _]) (R := S61) wp_ rfl rfl ot call78 (in_vc r k n d s ts 1 b2 b3 IH hn1 hn2 hs hd1 hd (by decide)) rfl ⟨opd_const, trivial⟩ (List.Perm.refl _) ?_
 rintro _ _ ⟨S63, ⟨ad63, cp63, rfl, ho63⟩, rfl⟩
 refine OD.perm (perm_p22 (A := [_, _])) ?_
 refine OD.giveL (t := 63) (Sq := S63) lk ho63 (fm_len cO_len _) (perm_r22 (A := [_, _])) ?_
 refine OD.appendG (ls := (subO r ts n s 0)) (new := (subO r ts n s 1)) (Sq := S61) cO_len cO_one wp_ rfl rfl underlying30 info39_Nm5 rfl (by decide) ot ho61 (perm_r11 (A := [_, _])) ot (by omega) (by have hmx : maxLen = 9223372036854775807 := rfl; (try simp only [List.length_append, List.length_cons, List.length_nil]); omega) (by have hmx : maxLen = 9223372036854775807 := rfl; (try simp only [List.length_append, List.length_cons, List.length_nil]); omega) (fun b64 cp64 h164 h264 => ?_)
 refine OD.perm (perm_q11 (S1 := [⟨b64, 39, cp64 * 5, List.flatMap cO ((subO r ts n s 0) ++ (subO r ts n s 1))⟩]) (A := [_, _])) ?_
 refine om_ ?_
 refine os_ (still_bld (pl := [(0, _)]) (ds := [_, _, _, _, _]) rfl zeroValue39 runUnderlying39 places39_Nm5 ⟨rfl, ot, trivial⟩ rfl rfl) ?_
 refine ob_ (numD 0 [_]) [.int .i64 0, .int .i64 0, .int .i64 0, .string ⟨#[]⟩, .string ⟨#[]⟩] [_, _, _, _, _] zeroValue39 runUnderlying30 sizeOf39 (fun b67 => ?_)
 refine og_ 0 67 5 1 ?_
 refine OD.appendG (ls := ((subO r ts n s 0) ++ (subO r ts n s 1))) (new := [(⟨kk, noVl, ⟨#[]⟩⟩ : OpL)]) (Sq := [⟨b64, 39, cp64 * 5, List.flatMap cO ((subO r ts n s 0) ++ (subO r ts n s 1))⟩]) cO_len cO_one wp_ rfl rfl underlying30 info39_Nm5 rfl (by decide) ot (ownL_row h164 h264) (perm_r11 (A := [_, _])) ot (by simp) (by have hmx : maxLen = 9223372036854775807 := rfl; (try simp only [List.length_append, List.length_cons, List.length_nil]); omega) (by have hmx : maxLen = 9223372036854775807 := rfl; (try simp only [List.length_append, List.length_cons, List.length_nil]); omega) (fun b68 cp68 h168 h268 => ?_)
 refine OD.perm (perm_q11 (S1 := [⟨b68, 39, cp68 * 5, List.flatMap cO (((subO r ts n s 0) ++ (subO r ts n s 1)) ++ [(⟨kk, noVl, ⟨#[]⟩⟩ : OpL)])⟩]) (A := [_, _])) ?_
 refine om_ ?_
 refine OD.wk (Wk.as_ (n := 69) (l' := [(4, _)]) (S' := (⟨b3, 3, 1, [_]⟩ :: ⟨b2, 45, 4, [_, _, _, _]⟩ :: [⟨b68, 39, cp68 * 5, List.flatMap cO (((subO r ts n s 0) ++ (subO r ts n s 1)) ++ [(⟨kk, noVl, ⟨#[]⟩⟩ : OpL)])⟩])) rfl rfl sl_) ?_
 refine OD.nil ?_
 refine CD.ret ?_
 refine ⟨.inr rfl, _, [⟨b68, 39, cp68 * 5, List.flatMap cO (((subO r ts n s 0) ++ (subO r ts n s 1)) ++ [(⟨kk, noVl, ⟨#[]⟩⟩ : OpL)])⟩], sv_, ret_one results52 (res_tmp le_ lk), ?_⟩
 exact RetL.cast (RetL.mk (ownL_row h168 h268)) (by rw [ops_step, hkk, if_neg (by omega), if_neg (by omega), if_neg (by omega)]; rfl)

theorem ops_vc : ∀ (r : Nat), r ≤ 3 → ∀ (t : Tw), t.Ok → VC Tryd.prog G 52 [.agg t.cs, .v (.int .i64 (3 - (r : Int)))] [] (RetO (opsAt r t))
 | 0, _, .mk k n s ts, h => leaf_vc k n 3 s (.list 4 (Tw.css ts) ts.length) rfl h.1.1 h.1.2 h.2.1.1 h.2.1.2 h.2.2.1 (by decide)
 | r + 1, hr, .mk k n s ts, h => by
  have := step_vc (G := G) r (by omega) k n (3 - ((r + 1 : Nat) : Int)) s ts (fun t ht => by
   have h1 := ops_vc r (by omega) t (Tw.oks_all h.2.2.2.2 t ht)
   rw [show (3 - ((r + 1 : Nat) : Int) + 1) = 3 - (r : Int) by omega]
   exact h1) h.1.1 h.1.2 h.2.1.1 h.2.1.2 h.2.2.1 (by omega) (by omega)
  rw [← Tw.css_eq] at this
  exact this

theorem Ops_vc (t : Tw) (h : t.Ok) : VC Tryd.prog G 32 [.agg t.cs] [] (RetO (opsAt 3 t)) := by
 refine VC.body func32 rfl ntmps32 le_ fun X0 w0 S00 => ?_
 obtain ⟨k, n, s, ts⟩ := t
 have ho3 := ops_vc (G := G) 3 (Nat.le_refl _) (.mk k n s ts) h
 unfold Tw.cs at ho3 ⊢
 refine sr_ ?_
 refine OD.box (ds := [_, _, _, _]) wp_ rfl rfl ot rfl rfl (fun b1 => ?_)
 refine om_ ?_
 refine on_ [(1, _)] [⟨b1, 45, 4, [_, _, _, _]⟩] ?_
 refine sr_ ?_
 refine os_ (lab_ 0 [_, _, _, _]) ?_
 refine OD.call wp_ rfl rfl rfl call52 (ho3) ⟨ot, opd_const, trivial⟩ (perm_none _) ?_
 rintro _ S4 ⟨ad4, cp4, rfl, ho4⟩
 refine OD.perm (S' := [_] ++ S4) perm_q11 ?_
 refine om_ ?_
 refine OD.wk (Wk.as_ (n := 5) (l' := [(2, _)]) (S' := (⟨b1, 45, 4, [_, _, _, _]⟩ :: S4)) rfl rfl sl_) ?_
 refine OD.nil ?_
 refine CD.ret ?_
 refine ⟨.inr rfl, _, S4, sv_, ret_one results32 (res_tmp le_ lk), ?_⟩
 exact RetL.mk ho4

theorem Ops_vp (t : Tw) (h : t.Ok) : VP Tryd.prog G 32 [.agg t.cs] (.list 5 ((opsAt 3 t).flatMap cO) (opsAt 3 t).length) := (Ops_vc t h).given cO_len

end Go.Proofs.YtjgekbmahhhokaaDoor.Nm

namespace Go.Proofs.YtjgekbmahhhokaaDoor.Nm
open Go.Proofs.Tryd
open Go.RowKit V Pk Vl
def runs : Int → List OpL → Option Int
 | h, [] => some h
 | h, o :: r => if opErr h o = 0 then runs (h + (1 - popsF o.k)) r else none
theorem runs_append : ∀ (a b : List OpL) (h : Int), runs h (a ++ b) = (runs h a).bind fun h' => runs h' b
 | [], b, h => rfl
 | o :: r, b, h => by
  rw [List.cons_append, runs, runs]
  split
  ·exact runs_append r b _
  rfl
theorem exprL_runs : ∀ {a : List OpL} {h h' : Int} (b : List OpL), runs h a = some h' → exprL h (a ++ b) = exprL h' b
 | [], h, h', b, e => by cases e; rfl
 | o :: r, h, h', b, e => by
  rw [runs] at e
  split at e
  ·rename_i h0
   rw [List.cons_append, exprL, if_pos h0]
   exact exprL_runs b e
  cases e
theorem no_name : ((⟨#[]⟩ : ByteArray).toList == (⟨#[]⟩ : ByteArray).toList) = true := by simp
theorem zero_noVl : zeroV noVl = true := by unfold zeroV noVl; simp
theorem lit_noVl : litF noVl = 0 := by decide
theorem lit_litV (n : Int) (s : ByteArray) : litF (litV n s) = 0 := by
 have h1 := pickedF_bd n (by decide : (1 : Int) ≤ 40)
 have h2 := pickedF_bd (pickedF n 40 - 20) (by decide : (1 : Int) ≤ 2)
 have hc : (cutF (cutF s 10) 4).size ≤ 4 := by rw [cutF_size]; omega
 have he : cutF (⟨#[]⟩ : ByteArray) 4 = ByteArray.empty := str_ext (by rw [cutF_list]; rfl)
 unfold litF litV valueF
 split
 ·simp [checkV, he]; omega
 split
 ·simp [checkV, he]; omega
 split
 ·simp [checkV]; omega
 unfold noVl; simp [checkV, he]
theorem err_lit {h : Int} (h0 : 0 ≤ h) (n : Int) (s : ByteArray) : opErr h (litOp n s) = 0 := by
 unfold opErr litOp
 rw [lit_litV]
 simp [popsF]
 omega
theorem name_col (j : Int) : nameF (nameC j) = 0 := by
 unfold nameC
 split
 ·exact small_name (l := [105, 100]) (by decide) (by decide) (by decide)
 split
 ·exact small_name (l := [110]) (by decide) (by decide) (by decide)
 split
 ·exact small_name (l := [115]) (by decide) (by decide) (by decide)
 exact small_name (l := [98]) (by decide) (by decide) (by decide)
theorem err_col {h : Int} (h0 : 0 ≤ h) (n : Int) : opErr h (colOp n) = 0 := by
 unfold opErr colOp
 rw [lit_noVl, zero_noVl, name_col]
 simp [popsF]
 omega
theorem err_bare {h k : Int} (h1 : 3 ≤ k) (h2 : k ≤ 11) (hh : popsF k ≤ h) : opErr h (bareOp k) = 0 := by
 unfold opErr bareOp
 simp only [lit_noVl, zero_noVl, no_name]
 rw [if_neg (by omega), if_neg (by simp), if_neg (by simp), if_neg (by omega), if_neg (by omega)]
theorem leaf_runs {h : Int} (h0 : 0 ≤ h) (k n : Int) (s : ByteArray) : runs h (leafOps k n s) = some (h + 1) := by
 unfold leafOps
 split
 ·rw [runs, if_pos (err_col h0 n), runs]; rfl
 rw [runs, if_pos (err_lit h0 n s), runs]; rfl
theorem ops_runs : ∀ (r : Nat) (t : Tw) (h : Int), 0 ≤ h → runs h (opsAt r t) = some (h + 1)
 | 0, .mk k n s ts, h, h0 => leaf_runs h0 k n s
 | r + 1, .mk k n s ts, h, h0 => by
  have hsub : ∀ (i : Nat) (h : Int), 0 ≤ h → runs h (subO r ts n s i) = some (h + 1) := fun i h h0 => by
   unfold subO
   split
   ·exact ops_runs r _ h h0
   exact leaf_runs h0 _ _ _
  have hk := pickedF_bd k (by decide : (1 : Int) ≤ 11)
  rw [ops_step]
  split
  ·rw [runs, if_pos (err_lit h0 n s), runs]; rfl
  split
  ·rw [runs, if_pos (err_col h0 n), runs]; rfl
  split
  ·rename_i h3
   rw [runs_append, hsub 0 h h0, Option.bind_some, runs, if_pos (err_bare (by omega) (by omega) (by unfold popsF; rw [if_neg (by omega), if_pos h3]; omega)), runs]
   unfold bareOp popsF
   rw [if_neg (by simp only []; omega), if_pos h3]
   simp
  rename_i h3
  rw [runs_append, runs_append, hsub 0 h h0, Option.bind_some, hsub 1 (h + 1) (by omega), Option.bind_some, runs, if_pos (err_bare (by omega) (by omega) (by unfold popsF; rw [if_neg (by omega), if_neg h3]; omega)), runs]
  unfold bareOp popsF
  rw [if_neg (by simp only []; omega), if_neg h3]
  congr 1; omega
theorem ops_short (t : Tw) : 1 ≤ (opsAt 3 t).length ∧ (opsAt 3 t).length ≤ 15 := by
 have := ops_len 3 t
 omega
theorem whole_ops (t : Tw) : exprF (opsAt 3 t) = 0 := by
 unfold exprF
 rw [if_neg (by have := ops_short t; omega)]
 have := exprL_runs [] (ops_runs 3 t 0 (Int.le_refl _))
 rw [List.append_nil] at this
 rw [this]; rfl
theorem cO_names (t : Tw) : ∀ o ∈ opsAt 3 t, o.nm.size ≤ 2 := by
 have hn : ∀ j : Int, (nameC j).size ≤ 2 := fun j => by
  unfold nameC
  split
  ·decide
  split
  ·decide
  split <;> decide
 have hleaf : ∀ k n s, ∀ o ∈ leafOps k n s, o.nm.size ≤ 2 := fun k n s o ho => by
  unfold leafOps at ho
  split at ho <;> (simp only [List.mem_singleton] at ho; subst ho)
  ·exact hn _
  exact Nat.zero_le _
 have key : ∀ (r : Nat) (t : Tw), ∀ o ∈ opsAt r t, o.nm.size ≤ 2 := by
  intro r
  induction r with
  | zero => intro t; obtain ⟨k, n, s, ts⟩ := t; exact hleaf k n s
  | succ r ih =>
   intro t o ho
   obtain ⟨k, n, s, ts⟩ := t
   have hsub : ∀ i : Nat, ∀ o ∈ subO r ts n s i, o.nm.size ≤ 2 := fun i o ho => by
    unfold subO at ho
    split at ho
    ·exact ih _ o ho
    exact hleaf _ _ _ o ho
   have hb : ∀ k, (bareOp k).nm.size ≤ 2 := fun k => Nat.zero_le _
   rw [ops_step] at ho
   split at ho
   ·simp only [List.mem_singleton] at ho; subst ho; exact Nat.zero_le _
   split at ho
   ·simp only [List.mem_singleton] at ho; subst ho; exact hn _
   split at ho
   ·rcases List.mem_append.1 ho with ho | ho
    ·exact hsub 0 o ho
    simp only [List.mem_singleton] at ho; subst ho; exact hb _
   rcases List.mem_append.1 ho with ho | ho
   ·rcases List.mem_append.1 ho with ho | ho
    ·exact hsub 0 o ho
    exact hsub 1 o ho
   simp only [List.mem_singleton] at ho; subst ho; exact hb _
 exact key 3 t
theorem names_ok {l : List OpL} (h : ∀ o ∈ l, o.nm.size ≤ 2) : ∀ o ∈ l, o.nm.size ≤ maxLen := fun o ho => Nat.le_trans (h o ho) (by decide)
variable {G : List (Nat × List Value)}


theorem rd_twigF {H : Type} {enc : TypeId × Value → H} {w : World} {base : Nat} {sp : Nat → Bool} {held : Bool} : ∀ n, RdsF n enc Tryd.prog w base sp held 45 Tw.cs Tw.Ok := by
 intro n
 induction n using Nat.strongRecOn with
 | _ n ih =>
  intro cs x h
  obtain ⟨⟨k, m, s, ts⟩, h1, h2, h3, h4, h5⟩ := rd_struct4 (fuel := n) (n0 := 1) (n1 := 1) (n2 := 1) (n3 := 1) underlying45 kr_ rfl rfl rfl rfl kr_ kr_ kr_ kr_
   (fun q _ => (rd_int underlying3).at q) (fun q _ => (rd_int underlying3).at q) (fun q _ => (rd_string underlying9).at q) (fun q hq => rd_sliceF (sz := 4) underlying43 kr_ (by decide) (fun z hz => ih z (by omega)) Tw.cs_len) cs x h
  refine ⟨.mk k m s ts, ?_, h2, h3, h4, h5.2, Tw.all_oks h5.1⟩
  unfold Tw.cs
  rw [Tw.css_eq]
  exact h1
end Go.Proofs.YtjgekbmahhhokaaDoor.Nm

namespace Go.Proofs.YtjgekbmahhhokaaDoor.Pa
open Go.Proofs.Tryd
open Go.RowKit V Pk Go.Proofs.YtjgekbmahhhokaaDoor.Vl Go.Proofs.YtjgekbmahhhokaaDoor.Nm
variable {G : List (Nat × List Value)}
def colsL : List ColL := [⟨⟨#[105, 100]⟩, 2⟩, ⟨⟨#[110]⟩, 2⟩, ⟨⟨#[115]⟩, 3⟩, ⟨⟨#[98]⟩, 1⟩]
def truthF (n : Int) : Vl := if pickedF n 3 = 2 then noVl else ⟨1, pickedF n 3, ⟨#[]⟩⟩
def wordOfL : List Vl → ByteArray
 | [] => ⟨#[120]⟩
 | v :: _ => v.s
def GoodS (s : StL) : Prop := FinS s ∧ 1 ≤ s.kind ∧ s.kind ≤ 6 ∧ s.limit ≤ 9223372036854775807 ∧ checkS s = 0
structure WOk (w : List OpL) : Prop where
 l : w.length ≤ 40
 f : whereF w = 0
 b : ∀ o ∈ w, o.nm.size ≤ maxLen ∧ -9223372036854775808 ≤ o.v.n ∧ o.v.n ≤ 9223372036854775807
theorem wok_nil : WOk [] := ⟨Nat.zero_le _, rfl, fun _ h => by cases h⟩
theorem ops_small (t : Tw) : ∀ o ∈ opsAt 3 t, -20 ≤ o.v.n ∧ o.v.n ≤ 40 := by
 have hz : ∀ j nm, -20 ≤ (⟨j, noVl, nm⟩ : OpL).v.n ∧ (⟨j, noVl, nm⟩ : OpL).v.n ≤ 40 := fun _ _ => ⟨by show (-20 : Int) ≤ 0; decide, by show (0 : Int) ≤ 40; decide⟩
 have hlit : ∀ n s, -20 ≤ (litOp n s).v.n ∧ (litOp n s).v.n ≤ 40 := fun n s => by
  show -20 ≤ (valueF ⟨n, pickedF n 40 - 20, s⟩).n ∧ (valueF ⟨n, pickedF n 40 - 20, s⟩).n ≤ 40
  have h40 := pickedF_bd n (show (1 : Int) ≤ 40 by decide)
  have h2 := pickedF_bd (pickedF n 40 - 20) (show (1 : Int) ≤ 2 by decide)
  unfold valueF
  split
  ·dsimp only; omega
  split
  ·dsimp only; omega
  split
  ·dsimp only; omega
  exact ⟨by show (-20 : Int) ≤ 0; decide, by show (0 : Int) ≤ 40; decide⟩
 have hleaf : ∀ k n s, ∀ o ∈ leafOps k n s, -20 ≤ o.v.n ∧ o.v.n ≤ 40 := fun k n s o ho => by
  unfold leafOps at ho
  split at ho <;> (simp only [List.mem_singleton] at ho; subst ho)
  ·exact hz _ _
  exact hlit _ _
 have key : ∀ (r : Nat) (t : Tw), ∀ o ∈ opsAt r t, -20 ≤ o.v.n ∧ o.v.n ≤ 40 := by
  intro r
  induction r with
  | zero => intro t; obtain ⟨k, n, s, ts⟩ := t; exact hleaf k n s
  | succ r ih =>
   intro t o ho
   obtain ⟨k, n, s, ts⟩ := t
   have hsub : ∀ i : Nat, ∀ o ∈ subO r ts n s i, -20 ≤ o.v.n ∧ o.v.n ≤ 40 := fun i o ho => by
    unfold subO at ho
    split at ho
    ·exact ih _ o ho
    exact hleaf _ _ _ o ho
   rw [ops_step] at ho
   split at ho
   ·simp only [List.mem_singleton] at ho; subst ho; exact hlit _ _
   split at ho
   ·simp only [List.mem_singleton] at ho; subst ho; exact hz _ _
   split at ho
   ·rcases List.mem_append.1 ho with ho | ho
    ·exact hsub 0 o ho
    simp only [List.mem_singleton] at ho; subst ho; exact hz _ _
   rcases List.mem_append.1 ho with ho | ho
   ·rcases List.mem_append.1 ho with ho | ho
    ·exact hsub 0 o ho
    exact hsub 1 o ho
   simp only [List.mem_singleton] at ho; subst ho; exact hz _ _
 exact key 3 t
theorem wok_ops (t : Tw) : WOk (opsAt 3 t) := by
 have h := ops_short t
 refine ⟨by omega, ?_, fun o ho => ⟨names_ok (cO_names t) o ho, ?_⟩⟩
 ·unfold whereF; rw [if_neg (by omega)]; exact whole_ops t
 have := ops_small t o ho; omega
theorem bare_self (s : StL) : bareF s s = true := by
 unfold bareF
 simp only [Bool.and_eq_true, beq_iff_eq, eqS_iff, and_self]
theorem check_mk {s : StL} (ht : nameF s.table = 0) (he : errS s = 0) (hb : hasS s = s) : checkS s = 0 := by
 unfold checkS
 rw [if_neg (fun h => h.2 ht), hb, if_neg (fun h => by rw [bare_self] at h; cases h.2), he]
theorem small {x : ByteArray} (h : nameF x = 0) : x.size ≤ maxLen := Nat.le_trans (name_ok h).2 (by decide)
def PreS (s : StL) : Prop := s.wher = [] ∧ ∀ w, WOk w → (4 ≤ s.kind ∨ w = []) → GoodS { s with wher := w }
theorem PreS.good {s : StL} (h : PreS s) : GoodS s := by
 have := h.2 [] wok_nil (.inr rfl)
 rw [← h.1] at this; exact this
theorem pre_create {t : ByteArray} (ht : nameF t = 0) : PreS { st0 with kind := 1, table := t, cols := colsL } := ⟨rfl, fun w hw h => by
 have hw0 : w = [] := h.resolve_left (by show ¬ (4 : Int) ≤ 1; decide)
 subst hw0
 exact ⟨⟨⟨by show 4 ≤ 6; decide, Nat.zero_le _, Nat.zero_le _, Nat.zero_le _, Nat.zero_le _⟩, small ht, by show ∀ c ∈ colsL, c.n.size ≤ maxLen; decide, (fun _ h => by cases h), Nat.zero_le _, Nat.zero_le _, (fun _ h => by cases h), (fun _ h => by cases h), (fun _ h => by cases h)⟩, by show (1 : Int) ≤ 1; decide, by show (1 : Int) ≤ 6; decide, (by show (-1 : Int) ≤ 9223372036854775807; decide),
  check_mk ht (show colsF colsL = 0 by decide +kernel) kr_⟩⟩
theorem pre_drop {t : ByteArray} (ht : nameF t = 0) : PreS { st0 with kind := 2, table := t } := ⟨rfl, fun w hw h => by
 have hw0 : w = [] := h.resolve_left (by show ¬ (4 : Int) ≤ 2; decide)
 subst hw0
 exact ⟨⟨⟨Nat.zero_le _, Nat.zero_le _, Nat.zero_le _, Nat.zero_le _, Nat.zero_le _⟩, small ht, (fun _ h => by cases h), (fun _ h => by cases h), Nat.zero_le _, Nat.zero_le _, (fun _ h => by cases h), (fun _ h => by cases h), (fun _ h => by cases h)⟩, by show (1 : Int) ≤ 2; decide, by show (2 : Int) ≤ 6; decide, (by show (-1 : Int) ≤ 9223372036854775807; decide),
  check_mk ht kr_ kr_⟩⟩
theorem lit_num {x : Int} (h0 : 0 ≤ x) : litF ⟨2, x, ⟨#[]⟩⟩ = 0 := by
 unfold litF; rw [if_neg (by intro h; have := h.2; dsimp only at this; omega)]; kernel_rfl
theorem lit_txt {s : ByteArray} (h : s.size ≤ 20) : litF ⟨3, 0, s⟩ = 0 := by
 unfold litF; rw [if_neg (by intro h; exact absurd h.1 (by show ¬ (3 : Int) = 2; decide))]
 unfold checkV
 rw [if_neg (by show ¬ (3 : Int) = 0; decide), if_neg (by show ¬ (3 : Int) = 1; decide), if_neg (by show ¬ (3 : Int) = 2; decide), if_pos rfl, if_neg (fun h => h rfl), if_neg (by show ¬ s.size > 20; omega)]
theorem lit_truth (n : Int) : litF (truthF n) = 0 ∧ -9223372036854775808 ≤ (truthF n).n ∧ (truthF n).n ≤ 9223372036854775807 := by
 have h := pickedF_bd n (show (1 : Int) ≤ 3 by decide)
 unfold truthF
 split
 ·exact ⟨by decide, by decide, by decide⟩
 have h2 : pickedF n 3 = 0 ∨ pickedF n 3 = 1 := by omega
 rcases h2 with h2 | h2 <;> rw [h2] <;> exact ⟨by decide, by decide, by decide⟩
theorem pre_insert {t : ByteArray} (ht : nameF t = 0) {x y b : Int} (hx : 0 ≤ x ∧ x < 12) (hy : 0 ≤ y ∧ y < 9) {u : ByteArray} (hu : u.size ≤ 6) : PreS { st0 with kind := 3, table := t, row := [⟨2, x, ⟨#[]⟩⟩, ⟨2, y, ⟨#[]⟩⟩, ⟨3, 0, u⟩, truthF b] } := ⟨rfl, fun w hw h => by
 have hw0 : w = [] := h.resolve_left (by show ¬ (4 : Int) ≤ 3; decide)
 subst hw0
 have l1 := lit_num hx.1
 have l2 := lit_num hy.1
 have l3 : litF ⟨3, 0, u⟩ = 0 := lit_txt (by omega)
 obtain ⟨l4, l5, l6⟩ := lit_truth b
 refine ⟨⟨⟨Nat.zero_le _, by show 4 ≤ 6; decide, Nat.zero_le _, Nat.zero_le _, Nat.zero_le _⟩, small ht, (fun _ h => by cases h), (fun _ h => by cases h), Nat.zero_le _, Nat.zero_le _, fun v hv => ?_, (fun _ h => by cases h), (fun _ h => by cases h)⟩, by show (1 : Int) ≤ 3; decide, by show (3 : Int) ≤ 6; decide, (by show (-1 : Int) ≤ 9223372036854775807; decide), check_mk ht ?_ kr_⟩
 ·simp only [List.mem_cons, List.not_mem_nil, or_false] at hv
  rcases hv with rfl | rfl | rfl | rfl
  ·dsimp only; omega
  ·dsimp only; omega
  ·dsimp only; omega
  exact ⟨l5, l6⟩
 show rowF [⟨2, x, ⟨#[]⟩⟩, ⟨2, y, ⟨#[]⟩⟩, ⟨3, 0, u⟩, truthF b] = 0
 unfold rowF
 rw [if_neg (by simp)]
 simp [firstE, l1, l2, l3, l4]⟩
theorem pre_select {t : ByteArray} (ht : nameF t = 0) {N : List ByteArray} (hN : N.length ≤ 6 ∧ ∀ x ∈ N, nameF x = 0) {c : Bool} (hc : c = true → N = []) {o : ByteArray} (ho : o = ⟨#[]⟩ ∨ nameF o = 0) {d : Bool} (hd : o = ⟨#[]⟩ → d = false) {m : Int} (hm : -1 ≤ m ∧ m ≤ 7) : PreS { st0 with kind := 4, table := t, names := N, count := c, order := o, down := d, limit := m } := ⟨rfl, fun w hw h => by
 have hos : o.size ≤ maxLen := by rcases ho with rfl | h; exact Nat.zero_le _; exact small h
 refine ⟨⟨⟨Nat.zero_le _, Nat.zero_le _, hN.1, hw.l, Nat.zero_le _⟩, small ht, (fun _ h => by cases h), fun x hx => small (hN.2 x hx), hos, Nat.zero_le _, (fun _ h => by cases h), hw.b, (fun _ h => by cases h)⟩, by show (1 : Int) ≤ 4; decide, by show (4 : Int) ≤ 6; decide, (by show _ ≤ (9223372036854775807 : Int); dsimp only; omega), check_mk ht ?_ kr_⟩
 show pickF { st0 with kind := 4, table := t, names := N, count := c, wher := w, order := o, down := d, limit := m } = 0
 have hn0 : firstE nameF N = 0 := by
  have key : ∀ l : List ByteArray, (∀ x ∈ l, nameF x = 0) → firstE nameF l = 0 := by
   intro l
   induction l with
   | nil => intro _; rfl
   | cons a r ih => intro h; rw [firstE, if_neg (by rw [h a List.mem_cons_self]; decide)]; exact ih fun x hx => h x (List.mem_cons_of_mem _ hx)
  exact key N hN.2
 unfold pickF
 dsimp only
 rw [if_neg (by omega), if_neg (by omega), if_neg (by
  rintro (⟨h1, h2⟩ | ⟨h1, h2⟩)
  ·rw [hc h1] at h2; simp at h2
  rw [hd (eqS_iff.1 h2)] at h1; cases h1), if_neg (by rw [hn0]; decide), if_neg (by rw [hw.f]; decide)]
 split
 ·rfl
 rename_i h2
 exact ho.resolve_left fun h => h2 (eqS_iff.2 h)⟩
theorem pre_update {t : ByteArray} (ht : nameF t = 0) {c : ByteArray} (hc : nameF c = 0) (tw : Tw) : PreS { st0 with kind := 5, table := t, set := c, to := opsAt 3 tw } := ⟨rfl, fun w hw h => by
 have ho := wok_ops tw
 refine ⟨⟨⟨Nat.zero_le _, Nat.zero_le _, Nat.zero_le _, hw.l, ho.l⟩, small ht, (fun _ h => by cases h), (fun _ h => by cases h), Nat.zero_le _, small hc, (fun _ h => by cases h), hw.b, ho.b⟩, by show (1 : Int) ≤ 5; decide, by show (5 : Int) ≤ 6; decide, (by show (-1 : Int) ≤ 9223372036854775807; decide), check_mk ht ?_ kr_⟩
 show (if nameF c = 0 then (if exprF (opsAt 3 tw) = 0 then whereF w else exprF (opsAt 3 tw)) else nameF c) = 0
 rw [if_pos hc, if_pos (whole_ops tw), hw.f]⟩
theorem pre_delete {t : ByteArray} (ht : nameF t = 0) : PreS { st0 with kind := 6, table := t } := ⟨rfl, fun w hw h => by
 refine ⟨⟨⟨Nat.zero_le _, Nat.zero_le _, Nat.zero_le _, hw.l, Nat.zero_le _⟩, small ht, (fun _ h => by cases h), (fun _ h => by cases h), Nat.zero_le _, Nat.zero_le _, (fun _ h => by cases h), hw.b, (fun _ h => by cases h)⟩, by show (1 : Int) ≤ 6; decide, by show (6 : Int) ≤ 6; decide, (by show (-1 : Int) ≤ 9223372036854775807; decide), check_mk ht hw.f kr_⟩⟩
def tuL : List ByteArray := [⟨#[116]⟩, ⟨#[117]⟩]
def orL : List ByteArray := [⟨#[]⟩, ⟨#[110]⟩, ⟨#[115]⟩, ⟨#[105, 100]⟩]
def stL : List ByteArray := [⟨#[110]⟩, ⟨#[110]⟩, ⟨#[115]⟩, ⟨#[98]⟩, ⟨#[105, 100]⟩]
theorem tu_ok : ∀ x ∈ tuL, nameF x = 0 := by decide +kernel
theorem or_ok : ∀ x ∈ orL, x.size = 0 ∨ nameF x = 0 := by decide +kernel
theorem st_ok : ∀ x ∈ stL, nameF x = 0 := by decide +kernel
theorem places95_Pg1 : ∀ w, ((#[{ name := "Name", type := 9, offset := 0, embedded := false, tag := "", pkgPath := "", byteOffset := 0 }, { name := "Kind", type := 3, offset := 1, embedded := false, tag := "", pkgPath := "", byteOffset := 16 }] : Array Field).mapM fun f => do pure (f.offset, ← sizeOf f.type) : Sem (Array (Nat × Nat))).run Tryd.prog w = .ok #[(0, 1), (1, 1)] w := fun w => by simp [sizeOf3, sizeOf9]

theorem colsOf_vp : VP Tryd.prog G 27 [] (.list 2 (colsL.flatMap cC) colsL.length) := by
 refine VC.body func27 rfl ntmps27 le_ fun X0 w0 S00 => ?_
 refine sr_ ?_
 refine om_ ?_
 refine nm_ [] ?_
 refine sr_ ?_
 refine os_ (still_bld (pl := [(0, _), (1, _)]) (ds := [_, _]) rfl zeroValue95 runUnderlying95 places95_Pg1 ⟨rfl, opd_const, rfl, opd_const, trivial⟩ rfl rfl) ?_
 refine os_ (still_bld (pl := [(0, _), (1, _)]) (ds := [_, _]) rfl zeroValue95 runUnderlying95 places95_Pg1 ⟨rfl, opd_const, rfl, opd_const, trivial⟩ rfl rfl) ?_
 refine os_ (still_bld (pl := [(0, _), (1, _)]) (ds := [_, _]) rfl zeroValue95 runUnderlying95 places95_Pg1 ⟨rfl, opd_const, rfl, opd_const, trivial⟩ rfl rfl) ?_
 refine os_ (still_bld (pl := [(0, _), (1, _)]) (ds := [_, _]) rfl zeroValue95 runUnderlying95 places95_Pg1 ⟨rfl, opd_const, rfl, opd_const, trivial⟩ rfl rfl) ?_
 refine ob_ (numD 0 [_, _, _, _]) [.string ⟨#[]⟩, .int .i64 0, .string ⟨#[]⟩, .int .i64 0, .string ⟨#[]⟩, .int .i64 0, .string ⟨#[]⟩, .int .i64 0] [_, _, _, _, _, _, _, _] zeroValue95 runUnderlying27 sizeOf95 (fun b5 => ?_)
 refine OD.perm (perm_q11 (S1 := [⟨b5, 95, 4 * 2, List.flatMap cC (colsL)⟩]) (A := [])) ?_
 refine om_ ?_
 refine OD.wk (Wk.as_ (n := 6) (l' := [(0, _)]) (S' := ([⟨b5, 95, 4 * 2, List.flatMap cC (colsL)⟩])) rfl rfl sl_) ?_
 refine OD.nil ?_
 refine CD.giveL (t := 0) (Sq := [⟨b5, 95, 4 * 2, List.flatMap cC (colsL)⟩]) lk (ownL_row (g := cC) (sz := 2) (e := 95) (ls := colsL) (Nat.le_refl _) (show 4 ≤ maxLen by decide)) (fm_len cC_len _) (perm_r11 (A := [])) ?_
 refine CD.ret ?_
 refine ⟨.inr rfl, rt_ results27 ?_⟩
 exact ⟨rfl, rfl⟩

theorem places37_Pg1 : ∀ w, ((#[{ name := "Kind", type := 3, offset := 0, embedded := false, tag := "", pkgPath := "", byteOffset := 0 }, { name := "Int", type := 3, offset := 1, embedded := false, tag := "", pkgPath := "", byteOffset := 8 }, { name := "Text", type := 9, offset := 2, embedded := false, tag := "", pkgPath := "", byteOffset := 16 }] : Array Field).mapM fun f => do pure (f.offset, ← sizeOf f.type) : Sem (Array (Nat × Nat))).run Tryd.prog w = .ok #[(0, 1), (1, 1), (2, 1)] w := fun w => by simp [sizeOf3, sizeOf9]

theorem truth_vp (n : Int) (h1 : -9223372036854775808 ≤ n) (h2 : n ≤ 9223372036854775807) : VP Tryd.prog G 31 [.v (.int .i64 n)] (.agg [.v (.int .i64 (truthF n).k), .v (.int .i64 (truthF n).n), .v (.string (truthF n).s)]) := by
 refine VC.body func31 rfl ntmps31 le_ fun X0 w0 S00 => ?_
 refine sr_ ?_
 refine OD.alloc (ds := [_, _, _]) wp_ rfl rfl zeroValue37 rfl (fun b2 => ?_)
 refine on_ [(0, _), (2, _)] [⟨b2, 37, 3, [_, _, _]⟩] ?_
 refine CD.seq ?_
 refine sr_ ?_
 refine om_ ?_
 refine oc_ call11 (picked_vp G n 3 h1 h2 (by decide)) ?_
 refine os_ bn_ ?_
 refine on_ [(0, _), (2, _), (5, _)] [⟨b2, 37, 3, [_, _, _]⟩] ?_
 refine CD.cond ot (fun hc0 => ?_) (fun hc0 => ?_)
 ·have hc0' := hc0
  (try simp only [V.cnd, ne_eq] at hc0')
  refine sr_ ?_
  refine os_ (still_bld (pl := []) (ds := [_, _, _]) rfl zeroValue37 runUnderlying37 places37_Pg1 trivial rfl rfl) ?_
  refine ot_ 0 [_, _, _] sizeOf37 ?_
  refine on_ [(2, _)] [⟨b2, 37, 3, [_, _, _]⟩] ?_
  refine CD.ret ?_
  refine ⟨.inr rfl, _, [], List.nil_sublist _, ret_one results31 (res_cells (k := 0) (ds := [_, _, _]) le_ lk rfl rfl isAgg37 sizeOf37 rfl rfl), ?_⟩
  refine ⟨?_, rfl⟩
  unfold truthF noVl
  simp_all
 have hc0' := hc0
 (try simp only [V.cnd, ne_eq] at hc0')
 refine CD.skip ?_
 refine sr_ ?_
 refine om_ ?_
 refine oc_ call11 (picked_vp G n 3 h1 h2 (by decide)) ?_
 refine os_ (still_bld (pl := [(0, _), (1, _)]) (ds := [_, _, _]) rfl zeroValue37 runUnderlying37 places37_Pg1 ⟨rfl, opd_const, rfl, ot, trivial⟩ rfl rfl) ?_
 refine ot_ 0 [_, _, _] sizeOf37 ?_
 refine on_ [(2, _)] [⟨b2, 37, 3, [_, _, _]⟩] ?_
 refine CD.ret ?_
 refine ⟨.inr rfl, _, [], List.nil_sublist _, ret_one results31 (res_cells (k := 0) (ds := [_, _, _]) le_ lk rfl rfl isAgg37 sizeOf37 rfl rfl), ?_⟩
 refine ⟨?_, rfl⟩
 unfold truthF noVl
 simp_all

end Go.Proofs.YtjgekbmahhhokaaDoor.Pa

namespace Go.Proofs.YtjgekbmahhhokaaDoor.Pa
open Go.Proofs.Tryd
open Go.RowKit V Pk Go.Proofs.YtjgekbmahhhokaaDoor.Vl Go.Proofs.YtjgekbmahhhokaaDoor.Nm
variable {G : List (Nat × List Value)}

theorem wordOf_vp (k t a b : Int) (row : List Vl) (x1 x2 : Int) (x3 : ByteArray) (ts1 : List Tw) (y1 y2 : Int) (y3 : ByteArray) (ts2 : List Tw) (bare : Bool) : VP Tryd.prog G 30 [.agg [.v (.int .i64 k), .v (.int .i64 t), .v (.int .i64 a), .v (.int .i64 b), .list 3 (row.flatMap cV) row.length, .v (.int .i64 x1), .v (.int .i64 x2), .v (.string x3), .list 4 (Tw.css ts1) ts1.length, .v (.int .i64 y1), .v (.int .i64 y2), .v (.string y3), .list 4 (Tw.css ts2) ts2.length, .v (.bool bare)]] (.v (.string (wordOfL row))) := by
 refine VC.body func30 rfl ntmps30 le_ fun X0 w0 S00 => ?_
 refine sr_ ?_
 refine OD.box (ds := [_, _, _, _, _, _, _, _, _, _, _, _, _, _]) wp_ rfl rfl ot rfl rfl (fun b1 => ?_)
 refine om_ ?_
 refine on_ [(1, _)] [⟨b1, 47, 14, [_, _, _, _, _, _, _, _, _, _, _, _, _, _]⟩] ?_
 refine CD.seq ?_
 refine sr_ ?_
 refine os_ (fa_ 4) ?_
 refine os_ (lb_ 0) ?_
 refine os_ ln_ ?_
 refine os_ bn_ ?_
 refine nm_ [1, 6] ?_
 refine CD.cond ot (fun hc0 => ?_) (fun hc0 => ?_)
 ·have hc0' := hc0
  (try simp only [V.cnd, ne_eq] at hc0')
  obtain ⟨v, r, rfl⟩ : ∃ v r, row = v :: r := by (cases row; simp at hc0; exact ⟨_, _, rfl⟩)
  refine sr_ ?_
  refine os_ (fa_ 4) ?_
  refine os_ (lb_ 0) ?_
  refine os_ (still_r2 (mk := Op.indexAddr 42) rfl ot opd_const (by first | exact ix_list runUnderlying42 sizeOf57 (j := 0) rfl (by simp) | exact ix_row runUnderlying42 sizeOf57 (j := 0) rfl (by simp))) ?_
  refine os_ (fa_ 2) ?_
  refine os_ (still_r1 (mk := Op.load 9) rfl ot (by exact ld_fm (i := 0) (j := 2) cV_len isAgg9 (by simp) rfl)) ?_
  refine om_ ?_
  refine on_ [(2, _)] [⟨b1, 47, 14, [_, _, _, _, _, _, _, _, _, _, _, _, _, _]⟩] ?_
  refine CD.ret ?_
  refine ⟨.inr rfl, rt_ results30 ?_⟩
  exact ⟨rfl, rfl⟩
 have hc0' := hc0
 (try simp only [V.cnd, ne_eq] at hc0')
 obtain rfl : row = [] := List.eq_nil_of_length_eq_zero (by simp at hc0; simp [hc0])
 refine CD.skip ?_
 refine sr_ ?_
 refine om_ ?_
 refine nm_ [2] ?_
 refine CD.ret ?_
 refine r1_ ?_
 exact ⟨rfl, rfl⟩

theorem places32_Pg2 : ∀ w, ((#[{ name := "Kind", type := 3, offset := 0, embedded := false, tag := "", pkgPath := "", byteOffset := 0 }, { name := "Table", type := 9, offset := 1, embedded := false, tag := "", pkgPath := "", byteOffset := 8 }, { name := "Cols", type := 27, offset := 2, embedded := false, tag := "", pkgPath := "", byteOffset := 24 }, { name := "Row", type := 28, offset := 3, embedded := false, tag := "", pkgPath := "", byteOffset := 48 }, { name := "Names", type := 29, offset := 4, embedded := false, tag := "", pkgPath := "", byteOffset := 72 }, { name := "Count", type := 4, offset := 5, embedded := false, tag := "", pkgPath := "", byteOffset := 96 }, { name := "Where", type := 30, offset := 6, embedded := false, tag := "", pkgPath := "", byteOffset := 104 }, { name := "Order", type := 9, offset := 7, embedded := false, tag := "", pkgPath := "", byteOffset := 128 }, { name := "Down", type := 4, offset := 8, embedded := false, tag := "", pkgPath := "", byteOffset := 144 }, { name := "Limit", type := 3, offset := 9, embedded := false, tag := "", pkgPath := "", byteOffset := 152 }, { name := "Set", type := 9, offset := 10, embedded := false, tag := "", pkgPath := "", byteOffset := 160 }, { name := "To", type := 30, offset := 11, embedded := false, tag := "", pkgPath := "", byteOffset := 176 }] : Array Field).mapM fun f => do pure (f.offset, ← sizeOf f.type) : Sem (Array (Nat × Nat))).run Tryd.prog w = .ok #[(0, 1), (1, 1), (2, 1), (3, 1), (4, 1), (5, 1), (6, 1), (7, 1), (8, 1), (9, 1), (10, 1), (11, 1)] w := fun w => by simp [sizeOf27, sizeOf28, sizeOf29, sizeOf3, sizeOf30, sizeOf4, sizeOf9]

theorem places37_Pg2 : ∀ w, ((#[{ name := "Kind", type := 3, offset := 0, embedded := false, tag := "", pkgPath := "", byteOffset := 0 }, { name := "Int", type := 3, offset := 1, embedded := false, tag := "", pkgPath := "", byteOffset := 8 }, { name := "Text", type := 9, offset := 2, embedded := false, tag := "", pkgPath := "", byteOffset := 16 }] : Array Field).mapM fun f => do pure (f.offset, ← sizeOf f.type) : Sem (Array (Nat × Nat))).run Tryd.prog w = .ok #[(0, 1), (1, 1), (2, 1)] w := fun w => by simp [sizeOf3, sizeOf9]

theorem statement_vc (k t a b : Int) (row : List Vl) (x1 x2 : Int) (x3 : ByteArray) (ts1 : List Tw) (y1 y2 : Int) (y3 : ByteArray) (ts2 : List Tw) (bare : Bool) (hk1 : -9223372036854775808 ≤ k) (hk2 : k ≤ 9223372036854775807) (ht1 : -9223372036854775808 ≤ t) (ht2 : t ≤ 9223372036854775807) (ha1 : -9223372036854775808 ≤ a) (ha2 : a ≤ 9223372036854775807) (hb1 : -9223372036854775808 ≤ b) (hb2 : b ≤ 9223372036854775807) (hrow : ∀ v ∈ row, v.s.size ≤ maxLen) (hto : (Tw.mk x1 x2 x3 ts1).Ok) (hwh : (Tw.mk y1 y2 y3 ts2).Ok) : VC Tryd.prog G 15 [.agg [.v (.int .i64 k), .v (.int .i64 t), .v (.int .i64 a), .v (.int .i64 b), .list 3 (row.flatMap cV) row.length, .v (.int .i64 x1), .v (.int .i64 x2), .v (.string x3), .list 4 (Tw.css ts1) ts1.length, .v (.int .i64 y1), .v (.int .i64 y2), .v (.string y3), .list 4 (Tw.css ts2) ts2.length, .v (.bool bare)]] [] (fun r S' => ∃ s, r = .agg (cSt s) ∧ S' = [] ∧ GoodS s) := by
 refine VC.body func15 rfl ntmps15 le_ fun X0 w0 S00 => ?_
 have pkib := pickedF_bd k (show (1 : Int) ≤ 6 by decide)
 have pkiv := picked_vp G k 6 hk1 hk2 (by decide)
 generalize pickedF k 6 = ki at *
 have ptib := pickedF_bd t (show (1 : Int) ≤ 2 by decide)
 have ptiv := picked_vp G t 2 ht1 ht2 (by decide)
 generalize pickedF t 2 = ti at *
 obtain ⟨tj, rfl⟩ := Int.eq_ofNat_of_zero_le ptib.1
 have htj : tj < tuL.length := by show tj < 2; omega
 have htn := tu_ok tuL[tj] (List.getElem_mem htj)
 generalize htng : tuL[tj] = tn at *
 refine sr_ ?_
 refine OD.box (ds := [_, _, _, _, _, _, _, _, _, _, _, _, _, _]) wp_ rfl rfl ot rfl rfl (fun b1 => ?_)
 refine OD.alloc (ds := [_, _, _, _, _, _, _, _, _, _, _, _]) wp_ rfl rfl zeroValue32 rfl (fun b2 => ?_)
 refine on_ [(1, _), (2, _)] [⟨b2, 32, 12, [_, _, _, _, _, _, _, _, _, _, _, _]⟩, ⟨b1, 47, 14, [_, _, _, _, _, _, _, _, _, _, _, _, _, _]⟩] ?_
 refine CD.seq ?_
 refine CD.mono (Q := fun e__ y__ => e__ = Exit.normal ∧ ∃ (b3 : Nat), (True) ∧ Wk y__ (⟨111, [(1, .v (.pointer (some ⟨b1, 0, none⟩))), (2, .v (.pointer (some ⟨b2, 0, none⟩))), (3, .v (.pointer (some ⟨b3, 0, none⟩)))], [⟨b3, 32, 12, [.v (.int .i64 (1 + ki)), .v (.string tn), .v (.slice none 0 0), .v (.slice none 0 0), .v (.slice none 0 0), .v (.bool false), .v (.slice none 0 0), .v (.string ⟨#[]⟩), .v (.bool false), .v (.int .i64 (-1)), .v (.string ⟨#[]⟩), .v (.slice none 0 0)]⟩, ⟨b2, 32, 12, [.v (.int .i64 0), .v (.string ⟨#[]⟩), .v (.slice none 0 0), .v (.slice none 0 0), .v (.slice none 0 0), .v (.bool false), .v (.slice none 0 0), .v (.string ⟨#[]⟩), .v (.bool false), .v (.int .i64 0), .v (.string ⟨#[]⟩), .v (.slice none 0 0)]⟩, ⟨b1, 47, 14, [.v (.int .i64 k), .v (.int .i64 t), .v (.int .i64 a), .v (.int .i64 b), .list 3 (row.flatMap cV) row.length, .v (.int .i64 x1), .v (.int .i64 x2), .v (.string x3), .list 4 (Tw.css ts1) ts1.length, .v (.int .i64 y1), .v (.int .i64 y2), .v (.string y3), .list 4 (Tw.css ts2) ts2.length, .v (.bool bare)]⟩]⟩ : St)) ?_ ?_
 ·skip
  refine CD.draw (bks _) kr_ (fun _ h => h) ?_
  refine a0_ 0 rfl (fa_ 0) ?_
  refine a0_ 1 rfl (lb_ 1) ?_
  refine a0_ 5 rfl (fa_ 1) ?_
  refine a0_ 6 rfl (lb_ 1) ?_
  refine AD0.later rfl ?_
  refine AD.three (i := 2) (j := 4) (k := 11) kr_ ?_ ?_ ?_
  ·skip
   refine ac_ call11 (pkiv) ?_
   refine a1_ 3 rfl bn_ ?_
   refine AD.three (i := 4) (j := 7) (k := 11) kr_ ?_ ?_ ?_
   ·skip
    refine ab_ (numD 0 [_, _]) [.string ⟨#[]⟩, .string ⟨#[]⟩] [_, _] zeroValue9 runUnderlying29 sizeOf9 (fun b8 => ?_)
    refine ag_ 0 8 1 2 ?_
    refine AD.two (i := 7) (j := 11) kr_ ?_ ?_
    ·skip
     refine ac_ call11 (ptiv) ?_
     refine a1_ 8 rfl (ix_ 1 (h := by first | exact .l (j := tj) rfl htj | exact .r (j := tj) rfl htj)) ?_
     refine AD.two (i := 9) (j := 11) kr_ ?_ ?_
     ·skip
      refine at_ rfl (still_r1 (mk := Op.load 9) rfl ot (by exact ld_fm0 (g := cS) (ls := tuL) (i := tj) (d := .v (.string tn)) cS_len isAgg9 htj (by show some (D.v (.string (tuL[tj]'htj))) = some (D.v (.string tn)); rw [htng]))) ?_
      refine a1_ 10 rfl (still_bld (pl := [(0, _), (1, _), (9, _)]) (ds := [_, _, _, _, _, _, _, _, _, _, _, _]) rfl zeroValue32 runUnderlying32 places32_Pg2 ⟨rfl, ot, rfl, ot, rfl, opd_const, trivial⟩ rfl rfl) ?_
      refine AD.one (i := 11) kr_ ?_
      refine AStep.alloc (ds := [_, _, _, _, _, _, _, _, _, _, _, _]) rfl wp_ rfl rfl zeroValue32 rfl (fun b3 => ?_)
      refine AD.one (i := 12) kr_ ?_
      refine as_ 0 [_, _, _, _, _, _, _, _, _, _, _, _] sizeOf32 ?_
      refine aw_ [(1, _), (2, _), (3, _)] [⟨b3, 32, 12, [_, _, _, _, _, _, _, _, _, _, _, _]⟩, ⟨b2, 32, 12, [_, _, _, _, _, _, _, _, _, _, _, _]⟩, ⟨b1, 47, 14, [_, _, _, _, _, _, _, _, _, _, _, _, _, _]⟩] ?_
      refine AD.done kr_ ?_
      exact ⟨rfl, _, trivial, Wk.refl _⟩
     refine AStep.alloc (ds := [_, _, _, _, _, _, _, _, _, _, _, _]) rfl wp_ rfl rfl zeroValue32 rfl (fun b3 => ?_)
     refine AD.one (i := 9) kr_ ?_
     refine at_ rfl (still_r1 (mk := Op.load 9) rfl ot (by exact ld_fm0 (g := cS) (ls := tuL) (i := tj) (d := .v (.string tn)) cS_len isAgg9 htj (by show some (D.v (.string (tuL[tj]'htj))) = some (D.v (.string tn)); rw [htng]))) ?_
     refine a1_ 10 rfl (still_bld (pl := [(0, _), (1, _), (9, _)]) (ds := [_, _, _, _, _, _, _, _, _, _, _, _]) rfl zeroValue32 runUnderlying32 places32_Pg2 ⟨rfl, ot, rfl, ot, rfl, opd_const, trivial⟩ rfl rfl) ?_
     refine AD.one (i := 12) kr_ ?_
     refine as_ 0 [_, _, _, _, _, _, _, _, _, _, _, _] sizeOf32 ?_
     refine aw_ [(1, _), (2, _), (3, _)] [⟨b3, 32, 12, [_, _, _, _, _, _, _, _, _, _, _, _]⟩, ⟨b2, 32, 12, [_, _, _, _, _, _, _, _, _, _, _, _]⟩, ⟨b1, 47, 14, [_, _, _, _, _, _, _, _, _, _, _, _, _, _]⟩] ?_
     refine AD.done kr_ ?_
     exact ⟨rfl, _, trivial, Wk.refl _⟩
    refine AStep.alloc (ds := [_, _, _, _, _, _, _, _, _, _, _, _]) rfl wp_ rfl rfl zeroValue32 rfl (fun b3 => ?_)
    refine AD.one (i := 7) kr_ ?_
    refine ac_ call11 (ptiv) ?_
    refine a1_ 8 rfl (ix_ 1 (h := by first | exact .l (j := tj) rfl htj | exact .r (j := tj) rfl htj)) ?_
    refine AD.one (i := 9) kr_ ?_
    refine at_ rfl (still_r1 (mk := Op.load 9) rfl ot (by exact ld_fm0 (g := cS) (ls := tuL) (i := tj) (d := .v (.string tn)) cS_len isAgg9 htj (by show some (D.v (.string (tuL[tj]'htj))) = some (D.v (.string tn)); rw [htng]))) ?_
    refine a1_ 10 rfl (still_bld (pl := [(0, _), (1, _), (9, _)]) (ds := [_, _, _, _, _, _, _, _, _, _, _, _]) rfl zeroValue32 runUnderlying32 places32_Pg2 ⟨rfl, ot, rfl, ot, rfl, opd_const, trivial⟩ rfl rfl) ?_
    refine AD.one (i := 12) kr_ ?_
    refine as_ 0 [_, _, _, _, _, _, _, _, _, _, _, _] sizeOf32 ?_
    refine aw_ [(1, _), (2, _), (3, _)] [⟨b3, 32, 12, [_, _, _, _, _, _, _, _, _, _, _, _]⟩, ⟨b2, 32, 12, [_, _, _, _, _, _, _, _, _, _, _, _]⟩, ⟨b1, 47, 14, [_, _, _, _, _, _, _, _, _, _, _, _, _, _]⟩] ?_
    refine AD.done kr_ ?_
    exact ⟨rfl, _, trivial, Wk.refl _⟩
   ·skip
    refine ac_ call11 (ptiv) ?_
    refine AD.two (i := 4) (j := 11) kr_ ?_ ?_
    ·skip
     refine ab_ (numD 0 [_, _]) [.string ⟨#[]⟩, .string ⟨#[]⟩] [_, _] zeroValue9 runUnderlying29 sizeOf9 (fun b8 => ?_)
     refine ag_ 0 8 1 2 ?_
     refine a1_ 8 rfl (ix_ 1 (h := by first | exact .l (j := tj) rfl htj | exact .r (j := tj) rfl htj)) ?_
     refine AD.two (i := 9) (j := 11) kr_ ?_ ?_
     ·skip
      refine at_ rfl (still_r1 (mk := Op.load 9) rfl ot (by exact ld_fm0 (g := cS) (ls := tuL) (i := tj) (d := .v (.string tn)) cS_len isAgg9 htj (by show some (D.v (.string (tuL[tj]'htj))) = some (D.v (.string tn)); rw [htng]))) ?_
      refine a1_ 10 rfl (still_bld (pl := [(0, _), (1, _), (9, _)]) (ds := [_, _, _, _, _, _, _, _, _, _, _, _]) rfl zeroValue32 runUnderlying32 places32_Pg2 ⟨rfl, ot, rfl, ot, rfl, opd_const, trivial⟩ rfl rfl) ?_
      refine AD.one (i := 11) kr_ ?_
      refine AStep.alloc (ds := [_, _, _, _, _, _, _, _, _, _, _, _]) rfl wp_ rfl rfl zeroValue32 rfl (fun b3 => ?_)
      refine AD.one (i := 12) kr_ ?_
      refine as_ 0 [_, _, _, _, _, _, _, _, _, _, _, _] sizeOf32 ?_
      refine aw_ [(1, _), (2, _), (3, _)] [⟨b3, 32, 12, [_, _, _, _, _, _, _, _, _, _, _, _]⟩, ⟨b2, 32, 12, [_, _, _, _, _, _, _, _, _, _, _, _]⟩, ⟨b1, 47, 14, [_, _, _, _, _, _, _, _, _, _, _, _, _, _]⟩] ?_
      refine AD.done kr_ ?_
      exact ⟨rfl, _, trivial, Wk.refl _⟩
     refine AStep.alloc (ds := [_, _, _, _, _, _, _, _, _, _, _, _]) rfl wp_ rfl rfl zeroValue32 rfl (fun b3 => ?_)
     refine AD.one (i := 9) kr_ ?_
     refine at_ rfl (still_r1 (mk := Op.load 9) rfl ot (by exact ld_fm0 (g := cS) (ls := tuL) (i := tj) (d := .v (.string tn)) cS_len isAgg9 htj (by show some (D.v (.string (tuL[tj]'htj))) = some (D.v (.string tn)); rw [htng]))) ?_
     refine a1_ 10 rfl (still_bld (pl := [(0, _), (1, _), (9, _)]) (ds := [_, _, _, _, _, _, _, _, _, _, _, _]) rfl zeroValue32 runUnderlying32 places32_Pg2 ⟨rfl, ot, rfl, ot, rfl, opd_const, trivial⟩ rfl rfl) ?_
     refine AD.one (i := 12) kr_ ?_
     refine as_ 0 [_, _, _, _, _, _, _, _, _, _, _, _] sizeOf32 ?_
     refine aw_ [(1, _), (2, _), (3, _)] [⟨b3, 32, 12, [_, _, _, _, _, _, _, _, _, _, _, _]⟩, ⟨b2, 32, 12, [_, _, _, _, _, _, _, _, _, _, _, _]⟩, ⟨b1, 47, 14, [_, _, _, _, _, _, _, _, _, _, _, _, _, _]⟩] ?_
     refine AD.done kr_ ?_
     exact ⟨rfl, _, trivial, Wk.refl _⟩
    refine AStep.alloc (ds := [_, _, _, _, _, _, _, _, _, _, _, _]) rfl wp_ rfl rfl zeroValue32 rfl (fun b3 => ?_)
    refine AD.one (i := 4) kr_ ?_
    refine ab_ (numD 0 [_, _]) [.string ⟨#[]⟩, .string ⟨#[]⟩] [_, _] zeroValue9 runUnderlying29 sizeOf9 (fun b8 => ?_)
    refine ag_ 0 8 1 2 ?_
    refine a1_ 8 rfl (ix_ 1 (h := by first | exact .l (j := tj) rfl htj | exact .r (j := tj) rfl htj)) ?_
    refine AD.one (i := 9) kr_ ?_
    refine at_ rfl (still_r1 (mk := Op.load 9) rfl ot (by exact ld_fm0 (g := cS) (ls := tuL) (i := tj) (d := .v (.string tn)) cS_len isAgg9 htj (by show some (D.v (.string (tuL[tj]'htj))) = some (D.v (.string tn)); rw [htng]))) ?_
    refine a1_ 10 rfl (still_bld (pl := [(0, _), (1, _), (9, _)]) (ds := [_, _, _, _, _, _, _, _, _, _, _, _]) rfl zeroValue32 runUnderlying32 places32_Pg2 ⟨rfl, ot, rfl, ot, rfl, opd_const, trivial⟩ rfl rfl) ?_
    refine AD.one (i := 12) kr_ ?_
    refine as_ 0 [_, _, _, _, _, _, _, _, _, _, _, _] sizeOf32 ?_
    refine aw_ [(1, _), (2, _), (3, _)] [⟨b3, 32, 12, [_, _, _, _, _, _, _, _, _, _, _, _]⟩, ⟨b2, 32, 12, [_, _, _, _, _, _, _, _, _, _, _, _]⟩, ⟨b1, 47, 14, [_, _, _, _, _, _, _, _, _, _, _, _, _, _]⟩] ?_
    refine AD.done kr_ ?_
    exact ⟨rfl, _, trivial, Wk.refl _⟩
   refine AStep.alloc (ds := [_, _, _, _, _, _, _, _, _, _, _, _]) rfl wp_ rfl rfl zeroValue32 rfl (fun b3 => ?_)
   refine AD.two (i := 4) (j := 7) kr_ ?_ ?_
   ·skip
    refine ab_ (numD 0 [_, _]) [.string ⟨#[]⟩, .string ⟨#[]⟩] [_, _] zeroValue9 runUnderlying29 sizeOf9 (fun b8 => ?_)
    refine ag_ 0 8 1 2 ?_
    refine AD.one (i := 7) kr_ ?_
    refine ac_ call11 (ptiv) ?_
    refine a1_ 8 rfl (ix_ 1 (h := by first | exact .l (j := tj) rfl htj | exact .r (j := tj) rfl htj)) ?_
    refine AD.one (i := 9) kr_ ?_
    refine at_ rfl (still_r1 (mk := Op.load 9) rfl ot (by exact ld_fm0 (g := cS) (ls := tuL) (i := tj) (d := .v (.string tn)) cS_len isAgg9 htj (by show some (D.v (.string (tuL[tj]'htj))) = some (D.v (.string tn)); rw [htng]))) ?_
    refine a1_ 10 rfl (still_bld (pl := [(0, _), (1, _), (9, _)]) (ds := [_, _, _, _, _, _, _, _, _, _, _, _]) rfl zeroValue32 runUnderlying32 places32_Pg2 ⟨rfl, ot, rfl, ot, rfl, opd_const, trivial⟩ rfl rfl) ?_
    refine AD.one (i := 12) kr_ ?_
    refine as_ 0 [_, _, _, _, _, _, _, _, _, _, _, _] sizeOf32 ?_
    refine aw_ [(1, _), (2, _), (3, _)] [⟨b3, 32, 12, [_, _, _, _, _, _, _, _, _, _, _, _]⟩, ⟨b2, 32, 12, [_, _, _, _, _, _, _, _, _, _, _, _]⟩, ⟨b1, 47, 14, [_, _, _, _, _, _, _, _, _, _, _, _, _, _]⟩] ?_
    refine AD.done kr_ ?_
    exact ⟨rfl, _, trivial, Wk.refl _⟩
   refine ac_ call11 (ptiv) ?_
   refine AD.one (i := 4) kr_ ?_
   refine ab_ (numD 0 [_, _]) [.string ⟨#[]⟩, .string ⟨#[]⟩] [_, _] zeroValue9 runUnderlying29 sizeOf9 (fun b8 => ?_)
   refine ag_ 0 8 1 2 ?_
   refine a1_ 8 rfl (ix_ 1 (h := by first | exact .l (j := tj) rfl htj | exact .r (j := tj) rfl htj)) ?_
   refine AD.one (i := 9) kr_ ?_
   refine at_ rfl (still_r1 (mk := Op.load 9) rfl ot (by exact ld_fm0 (g := cS) (ls := tuL) (i := tj) (d := .v (.string tn)) cS_len isAgg9 htj (by show some (D.v (.string (tuL[tj]'htj))) = some (D.v (.string tn)); rw [htng]))) ?_
   refine a1_ 10 rfl (still_bld (pl := [(0, _), (1, _), (9, _)]) (ds := [_, _, _, _, _, _, _, _, _, _, _, _]) rfl zeroValue32 runUnderlying32 places32_Pg2 ⟨rfl, ot, rfl, ot, rfl, opd_const, trivial⟩ rfl rfl) ?_
   refine AD.one (i := 12) kr_ ?_
   refine as_ 0 [_, _, _, _, _, _, _, _, _, _, _, _] sizeOf32 ?_
   refine aw_ [(1, _), (2, _), (3, _)] [⟨b3, 32, 12, [_, _, _, _, _, _, _, _, _, _, _, _]⟩, ⟨b2, 32, 12, [_, _, _, _, _, _, _, _, _, _, _, _]⟩, ⟨b1, 47, 14, [_, _, _, _, _, _, _, _, _, _, _, _, _, _]⟩] ?_
   refine AD.done kr_ ?_
   exact ⟨rfl, _, trivial, Wk.refl _⟩
  ·skip
   refine ab_ (numD 0 [_, _]) [.string ⟨#[]⟩, .string ⟨#[]⟩] [_, _] zeroValue9 runUnderlying29 sizeOf9 (fun b8 => ?_)
   refine ag_ 0 8 1 2 ?_
   refine AD.two (i := 2) (j := 11) kr_ ?_ ?_
   ·skip
    refine ac_ call11 (pkiv) ?_
    refine a1_ 3 rfl bn_ ?_
    refine AD.two (i := 7) (j := 11) kr_ ?_ ?_
    ·skip
     refine ac_ call11 (ptiv) ?_
     refine a1_ 8 rfl (ix_ 1 (h := by first | exact .l (j := tj) rfl htj | exact .r (j := tj) rfl htj)) ?_
     refine AD.two (i := 9) (j := 11) kr_ ?_ ?_
     ·skip
      refine at_ rfl (still_r1 (mk := Op.load 9) rfl ot (by exact ld_fm0 (g := cS) (ls := tuL) (i := tj) (d := .v (.string tn)) cS_len isAgg9 htj (by show some (D.v (.string (tuL[tj]'htj))) = some (D.v (.string tn)); rw [htng]))) ?_
      refine a1_ 10 rfl (still_bld (pl := [(0, _), (1, _), (9, _)]) (ds := [_, _, _, _, _, _, _, _, _, _, _, _]) rfl zeroValue32 runUnderlying32 places32_Pg2 ⟨rfl, ot, rfl, ot, rfl, opd_const, trivial⟩ rfl rfl) ?_
      refine AD.one (i := 11) kr_ ?_
      refine AStep.alloc (ds := [_, _, _, _, _, _, _, _, _, _, _, _]) rfl wp_ rfl rfl zeroValue32 rfl (fun b3 => ?_)
      refine AD.one (i := 12) kr_ ?_
      refine as_ 0 [_, _, _, _, _, _, _, _, _, _, _, _] sizeOf32 ?_
      refine aw_ [(1, _), (2, _), (3, _)] [⟨b3, 32, 12, [_, _, _, _, _, _, _, _, _, _, _, _]⟩, ⟨b2, 32, 12, [_, _, _, _, _, _, _, _, _, _, _, _]⟩, ⟨b1, 47, 14, [_, _, _, _, _, _, _, _, _, _, _, _, _, _]⟩] ?_
      refine AD.done kr_ ?_
      exact ⟨rfl, _, trivial, Wk.refl _⟩
     refine AStep.alloc (ds := [_, _, _, _, _, _, _, _, _, _, _, _]) rfl wp_ rfl rfl zeroValue32 rfl (fun b3 => ?_)
     refine AD.one (i := 9) kr_ ?_
     refine at_ rfl (still_r1 (mk := Op.load 9) rfl ot (by exact ld_fm0 (g := cS) (ls := tuL) (i := tj) (d := .v (.string tn)) cS_len isAgg9 htj (by show some (D.v (.string (tuL[tj]'htj))) = some (D.v (.string tn)); rw [htng]))) ?_
     refine a1_ 10 rfl (still_bld (pl := [(0, _), (1, _), (9, _)]) (ds := [_, _, _, _, _, _, _, _, _, _, _, _]) rfl zeroValue32 runUnderlying32 places32_Pg2 ⟨rfl, ot, rfl, ot, rfl, opd_const, trivial⟩ rfl rfl) ?_
     refine AD.one (i := 12) kr_ ?_
     refine as_ 0 [_, _, _, _, _, _, _, _, _, _, _, _] sizeOf32 ?_
     refine aw_ [(1, _), (2, _), (3, _)] [⟨b3, 32, 12, [_, _, _, _, _, _, _, _, _, _, _, _]⟩, ⟨b2, 32, 12, [_, _, _, _, _, _, _, _, _, _, _, _]⟩, ⟨b1, 47, 14, [_, _, _, _, _, _, _, _, _, _, _, _, _, _]⟩] ?_
     refine AD.done kr_ ?_
     exact ⟨rfl, _, trivial, Wk.refl _⟩
    refine AStep.alloc (ds := [_, _, _, _, _, _, _, _, _, _, _, _]) rfl wp_ rfl rfl zeroValue32 rfl (fun b3 => ?_)
    refine AD.one (i := 7) kr_ ?_
    refine ac_ call11 (ptiv) ?_
    refine a1_ 8 rfl (ix_ 1 (h := by first | exact .l (j := tj) rfl htj | exact .r (j := tj) rfl htj)) ?_
    refine AD.one (i := 9) kr_ ?_
    refine at_ rfl (still_r1 (mk := Op.load 9) rfl ot (by exact ld_fm0 (g := cS) (ls := tuL) (i := tj) (d := .v (.string tn)) cS_len isAgg9 htj (by show some (D.v (.string (tuL[tj]'htj))) = some (D.v (.string tn)); rw [htng]))) ?_
    refine a1_ 10 rfl (still_bld (pl := [(0, _), (1, _), (9, _)]) (ds := [_, _, _, _, _, _, _, _, _, _, _, _]) rfl zeroValue32 runUnderlying32 places32_Pg2 ⟨rfl, ot, rfl, ot, rfl, opd_const, trivial⟩ rfl rfl) ?_
    refine AD.one (i := 12) kr_ ?_
    refine as_ 0 [_, _, _, _, _, _, _, _, _, _, _, _] sizeOf32 ?_
    refine aw_ [(1, _), (2, _), (3, _)] [⟨b3, 32, 12, [_, _, _, _, _, _, _, _, _, _, _, _]⟩, ⟨b2, 32, 12, [_, _, _, _, _, _, _, _, _, _, _, _]⟩, ⟨b1, 47, 14, [_, _, _, _, _, _, _, _, _, _, _, _, _, _]⟩] ?_
    refine AD.done kr_ ?_
    exact ⟨rfl, _, trivial, Wk.refl _⟩
   refine AStep.alloc (ds := [_, _, _, _, _, _, _, _, _, _, _, _]) rfl wp_ rfl rfl zeroValue32 rfl (fun b3 => ?_)
   refine AD.one (i := 2) kr_ ?_
   refine ac_ call11 (pkiv) ?_
   refine a1_ 3 rfl bn_ ?_
   refine AD.one (i := 7) kr_ ?_
   refine ac_ call11 (ptiv) ?_
   refine a1_ 8 rfl (ix_ 1 (h := by first | exact .l (j := tj) rfl htj | exact .r (j := tj) rfl htj)) ?_
   refine AD.one (i := 9) kr_ ?_
   refine at_ rfl (still_r1 (mk := Op.load 9) rfl ot (by exact ld_fm0 (g := cS) (ls := tuL) (i := tj) (d := .v (.string tn)) cS_len isAgg9 htj (by show some (D.v (.string (tuL[tj]'htj))) = some (D.v (.string tn)); rw [htng]))) ?_
   refine a1_ 10 rfl (still_bld (pl := [(0, _), (1, _), (9, _)]) (ds := [_, _, _, _, _, _, _, _, _, _, _, _]) rfl zeroValue32 runUnderlying32 places32_Pg2 ⟨rfl, ot, rfl, ot, rfl, opd_const, trivial⟩ rfl rfl) ?_
   refine AD.one (i := 12) kr_ ?_
   refine as_ 0 [_, _, _, _, _, _, _, _, _, _, _, _] sizeOf32 ?_
   refine aw_ [(1, _), (2, _), (3, _)] [⟨b3, 32, 12, [_, _, _, _, _, _, _, _, _, _, _, _]⟩, ⟨b2, 32, 12, [_, _, _, _, _, _, _, _, _, _, _, _]⟩, ⟨b1, 47, 14, [_, _, _, _, _, _, _, _, _, _, _, _, _, _]⟩] ?_
   refine AD.done kr_ ?_
   exact ⟨rfl, _, trivial, Wk.refl _⟩
  refine AStep.alloc (ds := [_, _, _, _, _, _, _, _, _, _, _, _]) rfl wp_ rfl rfl zeroValue32 rfl (fun b3 => ?_)
  refine AD.two (i := 2) (j := 4) kr_ ?_ ?_
  ·skip
   refine ac_ call11 (pkiv) ?_
   refine a1_ 3 rfl bn_ ?_
   refine AD.two (i := 4) (j := 7) kr_ ?_ ?_
   ·skip
    refine ab_ (numD 0 [_, _]) [.string ⟨#[]⟩, .string ⟨#[]⟩] [_, _] zeroValue9 runUnderlying29 sizeOf9 (fun b8 => ?_)
    refine ag_ 0 8 1 2 ?_
    refine AD.one (i := 7) kr_ ?_
    refine ac_ call11 (ptiv) ?_
    refine a1_ 8 rfl (ix_ 1 (h := by first | exact .l (j := tj) rfl htj | exact .r (j := tj) rfl htj)) ?_
    refine AD.one (i := 9) kr_ ?_
    refine at_ rfl (still_r1 (mk := Op.load 9) rfl ot (by exact ld_fm0 (g := cS) (ls := tuL) (i := tj) (d := .v (.string tn)) cS_len isAgg9 htj (by show some (D.v (.string (tuL[tj]'htj))) = some (D.v (.string tn)); rw [htng]))) ?_
    refine a1_ 10 rfl (still_bld (pl := [(0, _), (1, _), (9, _)]) (ds := [_, _, _, _, _, _, _, _, _, _, _, _]) rfl zeroValue32 runUnderlying32 places32_Pg2 ⟨rfl, ot, rfl, ot, rfl, opd_const, trivial⟩ rfl rfl) ?_
    refine AD.one (i := 12) kr_ ?_
    refine as_ 0 [_, _, _, _, _, _, _, _, _, _, _, _] sizeOf32 ?_
    refine aw_ [(1, _), (2, _), (3, _)] [⟨b3, 32, 12, [_, _, _, _, _, _, _, _, _, _, _, _]⟩, ⟨b2, 32, 12, [_, _, _, _, _, _, _, _, _, _, _, _]⟩, ⟨b1, 47, 14, [_, _, _, _, _, _, _, _, _, _, _, _, _, _]⟩] ?_
    refine AD.done kr_ ?_
    exact ⟨rfl, _, trivial, Wk.refl _⟩
   refine ac_ call11 (ptiv) ?_
   refine AD.one (i := 4) kr_ ?_
   refine ab_ (numD 0 [_, _]) [.string ⟨#[]⟩, .string ⟨#[]⟩] [_, _] zeroValue9 runUnderlying29 sizeOf9 (fun b8 => ?_)
   refine ag_ 0 8 1 2 ?_
   refine a1_ 8 rfl (ix_ 1 (h := by first | exact .l (j := tj) rfl htj | exact .r (j := tj) rfl htj)) ?_
   refine AD.one (i := 9) kr_ ?_
   refine at_ rfl (still_r1 (mk := Op.load 9) rfl ot (by exact ld_fm0 (g := cS) (ls := tuL) (i := tj) (d := .v (.string tn)) cS_len isAgg9 htj (by show some (D.v (.string (tuL[tj]'htj))) = some (D.v (.string tn)); rw [htng]))) ?_
   refine a1_ 10 rfl (still_bld (pl := [(0, _), (1, _), (9, _)]) (ds := [_, _, _, _, _, _, _, _, _, _, _, _]) rfl zeroValue32 runUnderlying32 places32_Pg2 ⟨rfl, ot, rfl, ot, rfl, opd_const, trivial⟩ rfl rfl) ?_
   refine AD.one (i := 12) kr_ ?_
   refine as_ 0 [_, _, _, _, _, _, _, _, _, _, _, _] sizeOf32 ?_
   refine aw_ [(1, _), (2, _), (3, _)] [⟨b3, 32, 12, [_, _, _, _, _, _, _, _, _, _, _, _]⟩, ⟨b2, 32, 12, [_, _, _, _, _, _, _, _, _, _, _, _]⟩, ⟨b1, 47, 14, [_, _, _, _, _, _, _, _, _, _, _, _, _, _]⟩] ?_
   refine AD.done kr_ ?_
   exact ⟨rfl, _, trivial, Wk.refl _⟩
  refine ab_ (numD 0 [_, _]) [.string ⟨#[]⟩, .string ⟨#[]⟩] [_, _] zeroValue9 runUnderlying29 sizeOf9 (fun b8 => ?_)
  refine ag_ 0 8 1 2 ?_
  refine AD.one (i := 2) kr_ ?_
  refine ac_ call11 (pkiv) ?_
  refine a1_ 3 rfl bn_ ?_
  refine AD.one (i := 7) kr_ ?_
  refine ac_ call11 (ptiv) ?_
  refine a1_ 8 rfl (ix_ 1 (h := by first | exact .l (j := tj) rfl htj | exact .r (j := tj) rfl htj)) ?_
  refine AD.one (i := 9) kr_ ?_
  refine at_ rfl (still_r1 (mk := Op.load 9) rfl ot (by exact ld_fm0 (g := cS) (ls := tuL) (i := tj) (d := .v (.string tn)) cS_len isAgg9 htj (by show some (D.v (.string (tuL[tj]'htj))) = some (D.v (.string tn)); rw [htng]))) ?_
  refine a1_ 10 rfl (still_bld (pl := [(0, _), (1, _), (9, _)]) (ds := [_, _, _, _, _, _, _, _, _, _, _, _]) rfl zeroValue32 runUnderlying32 places32_Pg2 ⟨rfl, ot, rfl, ot, rfl, opd_const, trivial⟩ rfl rfl) ?_
  refine AD.one (i := 12) kr_ ?_
  refine as_ 0 [_, _, _, _, _, _, _, _, _, _, _, _] sizeOf32 ?_
  refine aw_ [(1, _), (2, _), (3, _)] [⟨b3, 32, 12, [_, _, _, _, _, _, _, _, _, _, _, _]⟩, ⟨b2, 32, 12, [_, _, _, _, _, _, _, _, _, _, _, _]⟩, ⟨b1, 47, 14, [_, _, _, _, _, _, _, _, _, _, _, _, _, _]⟩] ?_
  refine AD.done kr_ ?_
  exact ⟨rfl, _, trivial, Wk.refl _⟩
 rintro _ _ ⟨rfl, b3, _, hwk__⟩
 refine CD.wk hwk__ ?_
 refine CD.cut (fun y__ => ∃ (s : StL), (PreS s) ∧ y__ = (⟨111, [(1, .v (.pointer (some ⟨b1, 0, none⟩))), (2, .v (.pointer (some ⟨b2, 0, none⟩))), (3, .v (.pointer (some ⟨b3, 0, none⟩)))], [⟨b3, 32, 12, [.v (.int .i64 s.kind), .v (.string s.table), .list 2 (s.cols.flatMap cC) s.cols.length, .list 3 (s.row.flatMap cV) s.row.length, .list 1 (s.names.flatMap cS) s.names.length, .v (.bool s.count), .list 5 (s.wher.flatMap cO) s.wher.length, .v (.string s.order), .v (.bool s.down), .v (.int .i64 s.limit), .v (.string s.set), .list 5 (s.to.flatMap cO) s.to.length]⟩, ⟨b2, 32, 12, [.v (.int .i64 0), .v (.string ⟨#[]⟩), .v (.slice none 0 0), .v (.slice none 0 0), .v (.slice none 0 0), .v (.bool false), .v (.slice none 0 0), .v (.string ⟨#[]⟩), .v (.bool false), .v (.int .i64 0), .v (.string ⟨#[]⟩), .v (.slice none 0 0)]⟩, ⟨b1, 47, 14, [.v (.int .i64 k), .v (.int .i64 t), .v (.int .i64 a), .v (.int .i64 b), .list 3 (row.flatMap cV) row.length, .v (.int .i64 x1), .v (.int .i64 x2), .v (.string x3), .list 4 (Tw.css ts1) ts1.length, .v (.int .i64 y1), .v (.int .i64 y2), .v (.string y3), .list 4 (Tw.css ts2) ts2.length, .v (.bool bare)]⟩]⟩ : St)) ?_ ?_
 ·skip
  refine CD.seq ?_
  refine CD.cells (k := 0) (cs' := [_, _, .list 2 [] 0, .list 3 [] 0, .list 1 [] 0, _, .list 5 [] 0, _, _, _, _, .list 5 [] 0]) (S' := [_, _, _]) rfl (by repeat (first | exact trivial | exact ⟨gv_rfl, trivial⟩ | exact ⟨gv_nil, trivial⟩ | refine ⟨gv_rfl, ?_⟩ | refine ⟨gv_nil, ?_⟩)) rfl ?_
  refine CD.region ?_
  refine os_ (fa_ 0) ?_
  refine os_ (lb_ 0) ?_
  refine nm_ [1, 2, 3, 16] ?_
  refine CD.block ?_
  refine sr_ ?_
  refine os_ bn_ ?_
  refine om_ ?_
  refine nm_ [1, 2, 3, 16, 17] ?_
  refine CD.cond ot (fun hc0 => ?_) (fun hc0 => ?_)
  ·have hc0' := hc0
   (try simp only [V.cnd, ne_eq] at hc0')
   obtain rfl : ki = 0 := by simp at hc0; omega
   refine CD.region ?_
   refine OD.callP wp_ rfl rfl rfl call27 (colsOf_vp) trivial ?_
   refine os_ (fa_ 2) ?_
   refine ot_ 0 [_, _, _, _, _, _, _, _, _, _, _, _] sizeOf27 ?_
   refine on_ [(1, _), (2, _), (3, _)] [⟨b3, 32, 12, [_, _, _, _, _, _, _, _, _, _, _, _]⟩, ⟨b2, 32, 12, [_, _, _, _, _, _, _, _, _, _, _, _]⟩, ⟨b1, 47, 14, [_, _, _, _, _, _, _, _, _, _, _, _, _, _]⟩] ?_
   refine ⟨_, ?_, { st0 with kind := 1 + 0, table := tn, cols := colsL }, (pre_create htn), rfl⟩
   exact Wk.asS (n := 111) rfl (List.Sublist.refl _) sq_
  have hc0' := hc0
  (try simp only [V.cnd, ne_eq] at hc0')
  refine sr_ ?_
  refine os_ bn_ ?_
  refine om_ ?_
  refine nm_ [1, 2, 3, 16, 21] ?_
  refine CD.cond ot (fun hc1 => ?_) (fun hc1 => ?_)
  ·have hc1' := hc1
   (try simp only [V.cnd, ne_eq] at hc1')
   obtain rfl : ki = 2 := by simp at hc1; omega
   have pxab := pickedF_bd a (show (1 : Int) ≤ 12 by decide)
   have pxav := picked_vp G a 12 ha1 ha2 (by decide)
   generalize pickedF a 12 = xa at *
   have pxbb := pickedF_bd b (show (1 : Int) ≤ 9 by decide)
   have pxbv := picked_vp G b 9 hb1 hb2 (by decide)
   generalize pickedF b 9 = xb at *
   have hwl : (wordOfL row).size ≤ maxLen := by (cases row; decide; exact hrow _ List.mem_cons_self)
   have hcz : (cutF (wordOfL row) 2).size ≤ maxLen := by rw [cutF_size]; exact Nat.le_trans (Nat.min_le_left _ _) hwl
   have hcs : ((⟨#[]⟩ : ByteArray) ++ cutF (wordOfL row) 2).size ≤ maxLen := by rw [ByteArray.size_append]; show 0 + _ ≤ _; omega
   have hcq : (⟨#[]⟩ : ByteArray).size + (cutF (wordOfL row) 2).size ≤ 9223372036854775807 := by (have := hcz; unfold maxLen at this; show 0 + _ ≤ _; omega)
   have hu6 := (wordF_size ((⟨#[]⟩ : ByteArray) ++ cutF (wordOfL row) 2)).2
   refine CD.draw (bks (List.eraseIdx _ 0)) kr_ (fun _ h => (List.Sublist.map _ (List.eraseIdx_sublist _ 0)).subset h) ?_
   refine a0_ 0 rfl (fa_ 2) ?_
   refine a0_ 1 rfl (lb_ 2) ?_
   refine a0_ 4 rfl (fa_ 3) ?_
   refine a0_ 5 rfl (lb_ 2) ?_
   refine a0_ 8 rfl (lab_ 2 [_, _, _, _, _, _, _, _, _, _, _, _, _, _]) ?_
   refine a0_ 14 rfl (fa_ 3) ?_
   refine a0_ 15 rfl (lb_ 2) ?_
   refine AD0.later rfl ?_
   refine AD.one (i := 2) kr_ ?_
   refine ac_ call11 (pxav) ?_
   refine a1_ 3 rfl (still_bld (pl := [(0, _), (1, _)]) (ds := [_, _, _]) rfl zeroValue37 runUnderlying37 places37_Pg2 ⟨rfl, opd_const, rfl, ot, trivial⟩ rfl rfl) ?_
   refine AD.one (i := 6) kr_ ?_
   refine ac_ call11 (pxbv) ?_
   refine a1_ 7 rfl (still_bld (pl := [(0, _), (1, _)]) (ds := [_, _, _]) rfl zeroValue37 runUnderlying37 places37_Pg2 ⟨rfl, opd_const, rfl, ot, trivial⟩ rfl rfl) ?_
   refine AD.one (i := 9) kr_ ?_
   refine ac_ call30 (wordOf_vp k t a b row x1 x2 x3 ts1 y1 y2 y3 ts2 bare) ?_
   refine AD.one (i := 10) kr_ ?_
   refine ac_ call29 (cut_vp (wordOfL row) 2 hwl) ?_
   refine a1_ 11 rfl (still_bin rfl opd_const ot (bin_cat hcq)) ?_
   refine AD.one (i := 12) kr_ ?_
   refine ac_ call28 (Nm.word_vp ((⟨#[]⟩ : ByteArray) ++ cutF (wordOfL row) 2) hcs) ?_
   refine a1_ 13 rfl (still_bld (pl := [(0, _), (2, _)]) (ds := [_, _, _]) rfl zeroValue37 runUnderlying37 places37_Pg2 ⟨rfl, opd_const, rfl, ot, trivial⟩ rfl rfl) ?_
   refine AD.one (i := 16) kr_ ?_
   refine ac_ call31 (truth_vp b hb1 hb2) ?_
   refine AD.one (i := 17) kr_ ?_
   refine ab_ (numD 0 [_, _, _, _]) [.int .i64 0, .int .i64 0, .string ⟨#[]⟩, .int .i64 0, .int .i64 0, .string ⟨#[]⟩, .int .i64 0, .int .i64 0, .string ⟨#[]⟩, .int .i64 0, .int .i64 0, .string ⟨#[]⟩] [_, _, _, _, _, _, _, _, _, _, _, _] zeroValue37 runUnderlying28 sizeOf37 (fun b40 => ?_)
   refine ag_ 0 40 3 4 ?_
   refine a1_ 18 rfl (fa_ 3) ?_
   refine AD.one (i := 19) kr_ ?_
   refine as_ 0 [_, _, _, _, _, _, _, _, _, _, _, _] sizeOf28 ?_
   refine aw_ [(1, _), (2, _), (3, _)] [⟨b3, 32, 12, [_, _, _, _, _, _, _, _, _, _, _, _]⟩, ⟨b2, 32, 12, [_, _, _, _, _, _, _, _, _, _, _, _]⟩, ⟨b1, 47, 14, [_, _, _, _, _, _, _, _, _, _, _, _, _, _]⟩] ?_
   refine AD.done kr_ ?_
   refine ⟨_, ?_, { st0 with kind := 1 + 2, table := tn, row := [⟨2, xa, ⟨#[]⟩⟩, ⟨2, xb, ⟨#[]⟩⟩, ⟨3, 0, wordF ((⟨#[]⟩ : ByteArray) ++ cutF (wordOfL row) 2)⟩, truthF b] }, (pre_insert htn pxab pxbb hu6), rfl⟩
   exact Wk.asS (n := 111) rfl (List.Sublist.refl _) sq_
  have hc1' := hc1
  (try simp only [V.cnd, ne_eq] at hc1')
  refine sr_ ?_
  refine os_ bn_ ?_
  refine om_ ?_
  refine nm_ [1, 2, 3, 16, 42] ?_
  refine CD.cond ot (fun hc2 => ?_) (fun hc2 => ?_)
  ·have hc2' := hc2
   (try simp only [V.cnd, ne_eq] at hc2')
   obtain rfl : ki = 3 := by simp at hc2; omega
   refine CD.cut (fun y__ => ∃ (N : List ByteArray), ((N.length ≤ 6 ∧ ∀ x ∈ N, nameF x = 0)) ∧ y__ = (⟨111, [(1, .v (.pointer (some ⟨b1, 0, none⟩))), (2, .v (.pointer (some ⟨b2, 0, none⟩))), (3, .v (.pointer (some ⟨b3, 0, none⟩)))], [⟨b3, 32, 12, [.v (.int .i64 (1 + 3)), .v (.string tn), .list 2 [] 0, .list 3 [] 0, .list 1 (N.flatMap cS) N.length, .v (.bool false), .list 5 [] 0, .v (.string ⟨#[]⟩), .v (.bool false), .v (.int .i64 (-1)), .v (.string ⟨#[]⟩), .list 5 [] 0]⟩, ⟨b2, 32, 12, [.v (.int .i64 0), .v (.string ⟨#[]⟩), .v (.slice none 0 0), .v (.slice none 0 0), .v (.slice none 0 0), .v (.bool false), .v (.slice none 0 0), .v (.string ⟨#[]⟩), .v (.bool false), .v (.int .i64 0), .v (.string ⟨#[]⟩), .v (.slice none 0 0)]⟩, ⟨b1, 47, 14, [.v (.int .i64 k), .v (.int .i64 t), .v (.int .i64 a), .v (.int .i64 b), .list 3 (row.flatMap cV) row.length, .v (.int .i64 x1), .v (.int .i64 x2), .v (.string x3), .list 4 (Tw.css ts1) ts1.length, .v (.int .i64 y1), .v (.int .i64 y2), .v (.string y3), .list 4 (Tw.css ts2) ts2.length, .v (.bool bare)]⟩]⟩ : St)) ?_ ?_
   ·skip
    refine CD.seq ?_
    have pxcb := pickedF_bd a (show (1 : Int) ≤ 3 by decide)
    have pxcv := picked_vp G a 3 ha1 ha2 (by decide)
    generalize pickedF a 3 = xc at *
    refine CD.region ?_
    refine os_ (fa_ 2) ?_
    refine os_ (lb_ 2) ?_
    refine oc_ call11 (pxcv) ?_
    refine os_ bn_ ?_
    refine on_ [(1, _), (2, _), (3, _), (47, _)] [⟨b3, 32, 12, [_, _, _, _, _, _, _, _, _, _, _, _]⟩, ⟨b2, 32, 12, [_, _, _, _, _, _, _, _, _, _, _, _]⟩, ⟨b1, 47, 14, [_, _, _, _, _, _, _, _, _, _, _, _, _, _]⟩] ?_
    refine CD.cond ot (fun hc3 => ?_) (fun hc3 => ?_)
    ·have hc3' := hc3
     (try simp only [V.cnd, ne_eq] at hc3')
     have pyb := pickedF_bd b (show (1 : Int) ≤ 3 by decide)
     have pyv := picked_vp G b 3 hb1 hb2 (by decide)
     generalize pickedF b 3 = yb at *
     have hyb : yb = 0 ∨ yb = 1 ∨ yb = 2 := by omega
     rcases hyb with rfl | rfl | rfl
     ·skip
      refine CD.region ?_
      refine ob_ (numD 0 [_, _, _]) [.string ⟨#[]⟩, .string ⟨#[]⟩, .string ⟨#[]⟩] [_, _, _] zeroValue9 runUnderlying29 sizeOf9 (fun b48 => ?_)
      refine og_ 0 48 1 3 ?_
      refine os_ (fa_ 3) ?_
      refine os_ (lb_ 2) ?_
      refine oc_ call11 (pyv) ?_
      refine os_ bn_ ?_
      refine os_ (still_rs (l := 0) (h := 1) rfl ot trivial ⟨_, ot⟩ (by first | exact sl_head cS_len (fun h => by cases h) runUnderlying29 sizeOf9 (by omega) | exact sl_head cC_len (fun h => by cases h) runUnderlying29 sizeOf9 (by omega) | exact sl_row (fun h => by cases h) runUnderlying29 sizeOf9 (by omega) | exact sl_list (fun _ => rfl) (fun h => by cases h) runUnderlying29 sizeOf9 (by omega) (by omega))) ?_
      refine os_ (fa_ 4) ?_
      refine ot_ 0 [_, _, _, _, _, _, _, _, _, _, _, _] sizeOf29 ?_
      refine on_ [(1, _), (2, _), (3, _)] [⟨b3, 32, 12, [_, _, _, _, _, _, _, _, _, _, _, _]⟩, ⟨b2, 32, 12, [_, _, _, _, _, _, _, _, _, _, _, _]⟩, ⟨b1, 47, 14, [_, _, _, _, _, _, _, _, _, _, _, _, _, _]⟩] ?_
      refine ⟨_, ?_, [⟨#[115]⟩], ⟨by decide, by decide +kernel⟩, rfl⟩
      exact Wk.asS (n := 111) rfl (List.Sublist.refl _) sq_
     ·skip
      refine CD.region ?_
      refine ob_ (numD 0 [_, _, _]) [.string ⟨#[]⟩, .string ⟨#[]⟩, .string ⟨#[]⟩] [_, _, _] zeroValue9 runUnderlying29 sizeOf9 (fun b48 => ?_)
      refine og_ 0 48 1 3 ?_
      refine os_ (fa_ 3) ?_
      refine os_ (lb_ 2) ?_
      refine oc_ call11 (pyv) ?_
      refine os_ bn_ ?_
      refine os_ (still_rs (l := 0) (h := 2) rfl ot trivial ⟨_, ot⟩ (by first | exact sl_head cS_len (fun h => by cases h) runUnderlying29 sizeOf9 (by omega) | exact sl_head cC_len (fun h => by cases h) runUnderlying29 sizeOf9 (by omega) | exact sl_row (fun h => by cases h) runUnderlying29 sizeOf9 (by omega) | exact sl_list (fun _ => rfl) (fun h => by cases h) runUnderlying29 sizeOf9 (by omega) (by omega))) ?_
      refine os_ (fa_ 4) ?_
      refine ot_ 0 [_, _, _, _, _, _, _, _, _, _, _, _] sizeOf29 ?_
      refine on_ [(1, _), (2, _), (3, _)] [⟨b3, 32, 12, [_, _, _, _, _, _, _, _, _, _, _, _]⟩, ⟨b2, 32, 12, [_, _, _, _, _, _, _, _, _, _, _, _]⟩, ⟨b1, 47, 14, [_, _, _, _, _, _, _, _, _, _, _, _, _, _]⟩] ?_
      refine ⟨_, ?_, [⟨#[115]⟩, ⟨#[105, 100]⟩], ⟨by decide, by decide +kernel⟩, rfl⟩
      exact Wk.asS (n := 111) rfl (List.Sublist.refl _) sq_
     refine CD.region ?_
     refine ob_ (numD 0 [_, _, _]) [.string ⟨#[]⟩, .string ⟨#[]⟩, .string ⟨#[]⟩] [_, _, _] zeroValue9 runUnderlying29 sizeOf9 (fun b48 => ?_)
     refine og_ 0 48 1 3 ?_
     refine os_ (fa_ 3) ?_
     refine os_ (lb_ 2) ?_
     refine oc_ call11 (pyv) ?_
     refine os_ bn_ ?_
     refine os_ (still_rs (l := 0) (h := 3) rfl ot trivial ⟨_, ot⟩ (by first | exact sl_head cS_len (fun h => by cases h) runUnderlying29 sizeOf9 (by omega) | exact sl_head cC_len (fun h => by cases h) runUnderlying29 sizeOf9 (by omega) | exact sl_row (fun h => by cases h) runUnderlying29 sizeOf9 (by omega) | exact sl_list (fun _ => rfl) (fun h => by cases h) runUnderlying29 sizeOf9 (by omega) (by omega))) ?_
     refine os_ (fa_ 4) ?_
     refine ot_ 0 [_, _, _, _, _, _, _, _, _, _, _, _] sizeOf29 ?_
     refine on_ [(1, _), (2, _), (3, _)] [⟨b3, 32, 12, [_, _, _, _, _, _, _, _, _, _, _, _]⟩, ⟨b2, 32, 12, [_, _, _, _, _, _, _, _, _, _, _, _]⟩, ⟨b1, 47, 14, [_, _, _, _, _, _, _, _, _, _, _, _, _, _]⟩] ?_
     refine ⟨_, ?_, [⟨#[115]⟩, ⟨#[105, 100]⟩, ⟨#[110]⟩], ⟨by decide, by decide +kernel⟩, rfl⟩
     exact Wk.asS (n := 111) rfl (List.Sublist.refl _) sq_
    have hc3' := hc3
    (try simp only [V.cnd, ne_eq] at hc3')
    refine CD.skip ?_
    refine ⟨_, ?_, [], ⟨by simp, fun _ h => by cases h⟩, rfl⟩
    exact Wk.asS (n := 111) rfl (List.Sublist.refl _) sq_
   rintro _ ⟨N, hN, rfl⟩
   refine CD.seq ?_
   have pxdb := pickedF_bd a (show (1 : Int) ≤ 5 by decide)
   have pxdv := picked_vp G a 5 ha1 ha2 (by decide)
   generalize pickedF a 5 = xd at *
   refine CD.region ?_
   refine os_ (fa_ 2) ?_
   refine os_ (lb_ 2) ?_
   refine oc_ call11 (pxdv) ?_
   refine os_ bn_ ?_
   refine os_ (fa_ 5) ?_
   refine ot_ 0 [_, _, _, _, _, _, _, _, _, _, _, _] sizeOf4 ?_
   refine on_ [(1, _), (2, _), (3, _)] [⟨b3, 32, 12, [_, _, _, _, _, _, _, _, _, _, _, _]⟩, ⟨b2, 32, 12, [_, _, _, _, _, _, _, _, _, _, _, _]⟩, ⟨b1, 47, 14, [_, _, _, _, _, _, _, _, _, _, _, _, _, _]⟩] ?_
   refine CD.cut (fun y__ => ∃ (N : List ByteArray), ∃ (ct : Bool), ((N.length ≤ 6 ∧ ∀ x ∈ N, nameF x = 0)) ∧ (ct = true → N = []) ∧ y__ = (⟨111, [(1, .v (.pointer (some ⟨b1, 0, none⟩))), (2, .v (.pointer (some ⟨b2, 0, none⟩))), (3, .v (.pointer (some ⟨b3, 0, none⟩)))], [⟨b3, 32, 12, [.v (.int .i64 (1 + 3)), .v (.string tn), .list 2 [] 0, .list 3 [] 0, .list 1 (N.flatMap cS) N.length, .v (.bool ct), .list 5 [] 0, .v (.string ⟨#[]⟩), .v (.bool false), .v (.int .i64 (-1)), .v (.string ⟨#[]⟩), .list 5 [] 0]⟩, ⟨b2, 32, 12, [.v (.int .i64 0), .v (.string ⟨#[]⟩), .v (.slice none 0 0), .v (.slice none 0 0), .v (.slice none 0 0), .v (.bool false), .v (.slice none 0 0), .v (.string ⟨#[]⟩), .v (.bool false), .v (.int .i64 0), .v (.string ⟨#[]⟩), .v (.slice none 0 0)]⟩, ⟨b1, 47, 14, [.v (.int .i64 k), .v (.int .i64 t), .v (.int .i64 a), .v (.int .i64 b), .list 3 (row.flatMap cV) row.length, .v (.int .i64 x1), .v (.int .i64 x2), .v (.string x3), .list 4 (Tw.css ts1) ts1.length, .v (.int .i64 y1), .v (.int .i64 y2), .v (.string y3), .list 4 (Tw.css ts2) ts2.length, .v (.bool bare)]⟩]⟩ : St)) ?_ ?_
   ·skip
    refine sr_ ?_
    refine os_ (fa_ 5) ?_
    refine os_ (lb_ 0) ?_
    refine nm_ [1, 2, 3, 61] ?_
    refine CD.cond ot (fun hc4 => ?_) (fun hc4 => ?_)
    ·have hc4' := hc4
     (try simp only [V.cnd, ne_eq] at hc4')
     refine CD.region ?_
     refine os_ (fa_ 4) ?_
     refine ot_ 0 [_, _, _, _, _, _, _, _, _, _, _, _] sizeOf29 ?_
     refine on_ [(1, _), (2, _), (3, _)] [⟨b3, 32, 12, [_, _, _, _, _, _, _, _, _, _, _, _]⟩, ⟨b2, 32, 12, [_, _, _, _, _, _, _, _, _, _, _, _]⟩, ⟨b1, 47, 14, [_, _, _, _, _, _, _, _, _, _, _, _, _, _]⟩] ?_
     refine ⟨_, ?_, [], (xd == 3), ⟨Nat.zero_le _, fun _ h => by cases h⟩, (fun _ => rfl), rfl⟩
     exact (Wk.cells (k := 0) (cs' := [_, _, _, _, .list 1 [] 0, _, _, _, _, _, _, _]) rfl (by repeat (first | exact trivial | exact ⟨gv_rfl, trivial⟩ | exact ⟨gv_nil, trivial⟩ | refine ⟨gv_rfl, ?_⟩ | refine ⟨gv_nil, ?_⟩)) rfl).trans (Wk.asS (n := 111) rfl (List.Sublist.refl _) sq_)
    have hc4' := hc4
    (try simp only [V.cnd, ne_eq] at hc4')
    refine CD.skip ?_
    refine ⟨_, ?_, N, (xd == 3), hN, (fun h => absurd h (by rw [hc4]; decide)), rfl⟩
    exact Wk.asS (n := 111) rfl (List.Sublist.refl _) sq_
   rintro _ ⟨N, ct, hN, hcn, rfl⟩
   refine CD.seq ?_
   have pxeb := pickedF_bd b (show (1 : Int) ≤ 4 by decide)
   have pxev := picked_vp G b 4 hb1 hb2 (by decide)
   generalize pickedF b 4 = xe at *
   obtain ⟨ej, rfl⟩ := Int.eq_ofNat_of_zero_le pxeb.1
   have hej : ej < orL.length := by show ej < 4; omega
   have hon := or_ok orL[ej] (List.getElem_mem hej)
   generalize heng : orL[ej] = od at *
   refine CD.region ?_
   refine ob_ (numD 0 [_, _, _, _]) [.string ⟨#[]⟩, .string ⟨#[]⟩, .string ⟨#[]⟩, .string ⟨#[]⟩] [_, _, _, _] zeroValue9 runUnderlying29 sizeOf9 (fun b63 => ?_)
   refine og_ 0 63 1 4 ?_
   refine os_ (fa_ 3) ?_
   refine os_ (lb_ 2) ?_
   refine oc_ call11 (pxev) ?_
   refine os_ (ix_ 1 (h := by first | exact .l (j := ej) rfl hej | exact .r (j := ej) rfl hej)) ?_
   refine os_ (still_r1 (mk := Op.load 9) rfl ot (by exact ld_fm0 (g := cS) (ls := orL) (i := ej) (d := .v (.string od)) cS_len isAgg9 hej (by show some (D.v (.string (orL[ej]'hej))) = some (D.v (.string od)); rw [heng]))) ?_
   refine os_ (fa_ 7) ?_
   refine ot_ 0 [_, _, _, _, _, _, _, _, _, _, _, _] sizeOf9 ?_
   refine on_ [(1, _), (2, _), (3, _)] [⟨b3, 32, 12, [_, _, _, _, _, _, _, _, _, _, _, _]⟩, ⟨b2, 32, 12, [_, _, _, _, _, _, _, _, _, _, _, _]⟩, ⟨b1, 47, 14, [_, _, _, _, _, _, _, _, _, _, _, _, _, _]⟩] ?_
   refine CD.cut (fun y__ => ∃ (dn : Bool), (od = ⟨#[]⟩ → dn = false) ∧ y__ = (⟨111, [(1, .v (.pointer (some ⟨b1, 0, none⟩))), (2, .v (.pointer (some ⟨b2, 0, none⟩))), (3, .v (.pointer (some ⟨b3, 0, none⟩)))], [⟨b3, 32, 12, [.v (.int .i64 (1 + 3)), .v (.string tn), .list 2 [] 0, .list 3 [] 0, .list 1 (N.flatMap cS) N.length, .v (.bool ct), .list 5 [] 0, .v (.string od), .v (.bool dn), .v (.int .i64 (-1)), .v (.string ⟨#[]⟩), .list 5 [] 0]⟩, ⟨b2, 32, 12, [.v (.int .i64 0), .v (.string ⟨#[]⟩), .v (.slice none 0 0), .v (.slice none 0 0), .v (.slice none 0 0), .v (.bool false), .v (.slice none 0 0), .v (.string ⟨#[]⟩), .v (.bool false), .v (.int .i64 0), .v (.string ⟨#[]⟩), .v (.slice none 0 0)]⟩, ⟨b1, 47, 14, [.v (.int .i64 k), .v (.int .i64 t), .v (.int .i64 a), .v (.int .i64 b), .list 3 (row.flatMap cV) row.length, .v (.int .i64 x1), .v (.int .i64 x2), .v (.string x3), .list 4 (Tw.css ts1) ts1.length, .v (.int .i64 y1), .v (.int .i64 y2), .v (.string y3), .list 4 (Tw.css ts2) ts2.length, .v (.bool bare)]⟩]⟩ : St)) ?_ ?_
   ·skip
    have pxfb := pickedF_bd a (show (1 : Int) ≤ 2 by decide)
    have pxfv := picked_vp G a 2 ha1 ha2 (by decide)
    generalize pickedF a 2 = xf at *
    refine CD.region ?_
    refine os_ (fa_ 7) ?_
    refine os_ (lb_ 0) ?_
    refine os_ bn_ ?_
    refine om_ ?_
    refine OD.split (t := 73) lk (fun hg73 => ?_) (fun hg73 => ?_)
    ·have hg73' := hg73; (try simp only [V.cnd, ne_eq] at hg73')
     refine os_ (fa_ 2) ?_
     refine os_ (lb_ 2) ?_
     refine OD.callP wt_ rfl rfl rfl call11 (pxfv) ⟨ot, opd_const, trivial⟩ ?_
     refine os_ bn_ ?_
     refine os_ pkT_ ?_
     refine os_ (fa_ 8) ?_
     refine ot_ 0 [_, _, _, _, _, _, _, _, _, _, _, _] sizeOf4 ?_
     refine on_ [(1, _), (2, _), (3, _)] [⟨b3, 32, 12, [_, _, _, _, _, _, _, _, _, _, _, _]⟩, ⟨b2, 32, 12, [_, _, _, _, _, _, _, _, _, _, _, _]⟩, ⟨b1, 47, 14, [_, _, _, _, _, _, _, _, _, _, _, _, _, _]⟩] ?_
     refine ⟨_, ?_, (xf == 1), (fun h => by rw [h] at hg73; exact absurd hg73 (by decide +kernel)), rfl⟩
     exact Wk.asS (n := 111) rfl (List.Sublist.refl _) sq_
    have hg73' := hg73; (try simp only [V.cnd, ne_eq] at hg73')
    refine sk_ ?_
    refine sk_ ?_
    refine sk_ ?_
    refine sk_ ?_
    refine os_ pkF_ ?_
    refine os_ (fa_ 8) ?_
    refine ot_ 0 [_, _, _, _, _, _, _, _, _, _, _, _] sizeOf4 ?_
    refine on_ [(1, _), (2, _), (3, _)] [⟨b3, 32, 12, [_, _, _, _, _, _, _, _, _, _, _, _]⟩, ⟨b2, 32, 12, [_, _, _, _, _, _, _, _, _, _, _, _]⟩, ⟨b1, 47, 14, [_, _, _, _, _, _, _, _, _, _, _, _, _, _]⟩] ?_
    refine ⟨_, ?_, false, (fun _ => rfl), rfl⟩
    exact Wk.asS (n := 111) rfl (List.Sublist.refl _) sq_
   rintro _ ⟨dn, hdn, rfl⟩
   have pxgb := pickedF_bd a (show (1 : Int) ≤ 9 by decide)
   have pxgv := picked_vp G a 9 ha1 ha2 (by decide)
   generalize pickedF a 9 = xg at *
   refine CD.region ?_
   refine os_ (fa_ 2) ?_
   refine os_ (lb_ 2) ?_
   refine oc_ call11 (pxgv) ?_
   refine os_ bn_ ?_
   refine os_ (fa_ 9) ?_
   refine ot_ 0 [_, _, _, _, _, _, _, _, _, _, _, _] sizeOf3 ?_
   refine on_ [(1, _), (2, _), (3, _)] [⟨b3, 32, 12, [_, _, _, _, _, _, _, _, _, _, _, _]⟩, ⟨b2, 32, 12, [_, _, _, _, _, _, _, _, _, _, _, _]⟩, ⟨b1, 47, 14, [_, _, _, _, _, _, _, _, _, _, _, _, _, _]⟩] ?_
   refine ⟨_, ?_, { st0 with kind := 1 + 3, table := tn, names := N, count := ct, order := od, down := dn, limit := xg - 1 }, (pre_select htn hN hcn (hon.imp (fun h => size_0 h) id) hdn (by omega)), rfl⟩
   exact Wk.asS (n := 111) rfl (List.Sublist.refl _) sq_
  have hc2' := hc2
  (try simp only [V.cnd, ne_eq] at hc2')
  refine sr_ ?_
  refine os_ bn_ ?_
  refine om_ ?_
  refine nm_ [1, 2, 3, 85] ?_
  refine CD.cond ot (fun hc5 => ?_) (fun hc5 => ?_)
  ·have hc5' := hc5
   (try simp only [V.cnd, ne_eq] at hc5')
   obtain rfl : ki = 4 := by simp at hc5; omega
   refine CD.seq ?_
   have pxhb := pickedF_bd a (show (1 : Int) ≤ 5 by decide)
   have pxhv := picked_vp G a 5 ha1 ha2 (by decide)
   generalize pickedF a 5 = xh at *
   obtain ⟨hj, rfl⟩ := Int.eq_ofNat_of_zero_le pxhb.1
   have hhj : hj < stL.length := by show hj < 5; omega
   have hsn := st_ok stL[hj] (List.getElem_mem hhj)
   generalize hsng : stL[hj] = sn at *
   refine CD.region ?_
   refine ob_ (numD 0 [_, _, _, _, _]) [.string ⟨#[]⟩, .string ⟨#[]⟩, .string ⟨#[]⟩, .string ⟨#[]⟩, .string ⟨#[]⟩] [_, _, _, _, _] zeroValue9 runUnderlying29 sizeOf9 (fun b87 => ?_)
   refine og_ 0 87 1 5 ?_
   refine os_ (fa_ 2) ?_
   refine os_ (lb_ 2) ?_
   refine oc_ call11 (pxhv) ?_
   refine os_ (ix_ 1 (h := by first | exact .l (j := hj) rfl hhj | exact .r (j := hj) rfl hhj)) ?_
   refine os_ (still_r1 (mk := Op.load 9) rfl ot (by exact ld_fm0 (g := cS) (ls := stL) (i := hj) (d := .v (.string sn)) cS_len isAgg9 hhj (by show some (D.v (.string (stL[hj]'hhj))) = some (D.v (.string sn)); rw [hsng]))) ?_
   refine os_ (fa_ 10) ?_
   refine ot_ 0 [_, _, _, _, _, _, _, _, _, _, _, _] sizeOf9 ?_
   refine on_ [(1, _), (2, _), (3, _)] [⟨b3, 32, 12, [_, _, _, _, _, _, _, _, _, _, _, _]⟩, ⟨b2, 32, 12, [_, _, _, _, _, _, _, _, _, _, _, _]⟩, ⟨b1, 47, 14, [_, _, _, _, _, _, _, _, _, _, _, _, _, _]⟩] ?_
   refine CD.region ?_
   refine os_ (fa_ 5) ?_
   refine os_ (lab_ 2 [_, _, _, _]) ?_
   refine oc_ call32 (Ops_vp (.mk x1 x2 x3 ts1) hto) ?_
   refine os_ (fa_ 11) ?_
   refine ot_ 0 [_, _, _, _, _, _, _, _, _, _, _, _] sizeOf30 ?_
   refine on_ [(1, _), (2, _), (3, _)] [⟨b3, 32, 12, [_, _, _, _, _, _, _, _, _, _, _, _]⟩, ⟨b2, 32, 12, [_, _, _, _, _, _, _, _, _, _, _, _]⟩, ⟨b1, 47, 14, [_, _, _, _, _, _, _, _, _, _, _, _, _, _]⟩] ?_
   refine ⟨_, ?_, { st0 with kind := 1 + 4, table := tn, set := sn, to := opsAt 3 (.mk x1 x2 x3 ts1) }, (pre_update htn hsn (.mk x1 x2 x3 ts1)), rfl⟩
   exact Wk.asS (n := 111) rfl (List.Sublist.refl _) sq_
  have hc5' := hc5
  (try simp only [V.cnd, ne_eq] at hc5')
  have hk15 : ki = 1 ∨ ki = 5 := by simp at hc0 hc1 hc2 hc5; omega
  refine CD.skip ?_
  refine ⟨_, ?_, { st0 with kind := 1 + ki, table := tn }, (by (rcases hk15 with rfl | rfl; exact pre_drop htn; exact pre_delete htn)), rfl⟩
  exact Wk.asS (n := 111) rfl (List.Sublist.refl _) sq_
 rintro _ ⟨s, hpre, rfl⟩
 refine CD.seq ?_
 refine sr_ ?_
 refine os_ (fa_ 0) ?_
 refine os_ (lb_ 0) ?_
 refine os_ bn_ ?_
 refine om_ ?_
 refine OD.split (t := 101) lk (fun hg101 => ?_) (fun hg101 => ?_)
 ·have hg101' := hg101; (try simp only [V.cnd, ne_eq] at hg101')
  refine os_ (fa_ 13) ?_
  refine os_ (lb_ 2) ?_
  refine os_ un_ ?_
  refine os_ pkT_ ?_
  refine nm_ [1, 2, 3, 105] ?_
  refine CD.cond ot (fun hc6 => ?_) (fun hc6 => ?_)
  ·have hc6' := hc6
   (try simp only [V.cnd, ne_eq] at hc6')
   have hg4 : 4 ≤ s.kind ∧ bare = false := by (have q1 := hc6; simp at q1; first | exact ⟨by simpa using hg101, by simpa using q1⟩ | simp_all)
   have hgood := hpre.2 (opsAt 3 (.mk y1 y2 y3 ts2)) (wok_ops _) (.inl hg4.1)
   refine CD.region ?_
   refine os_ (fa_ 9) ?_
   refine os_ (lab_ 2 [_, _, _, _]) ?_
   refine oc_ call32 (Ops_vp (.mk y1 y2 y3 ts2) hwh) ?_
   refine os_ (fa_ 6) ?_
   refine ot_ 0 [_, _, _, _, _, _, _, _, _, _, _, _] sizeOf30 ?_
   refine on_ [(2, _), (3, _)] [⟨b3, 32, 12, [_, _, _, _, _, _, _, _, _, _, _, _]⟩, ⟨b2, 32, 12, [_, _, _, _, _, _, _, _, _, _, _, _]⟩, ⟨b1, 47, 14, [_, _, _, _, _, _, _, _, _, _, _, _, _, _]⟩] ?_
   refine sr_ ?_
   refine os_ (lab_ 0 [_, _, _, _, _, _, _, _, _, _, _, _]) ?_
   refine ot_ 1 [_, _, _, _, _, _, _, _, _, _, _, _] sizeOf32 ?_
   refine on_ [(2, _)] [⟨b3, 32, 12, [_, _, _, _, _, _, _, _, _, _, _, _]⟩, ⟨b2, 32, 12, [_, _, _, _, _, _, _, _, _, _, _, _]⟩, ⟨b1, 47, 14, [_, _, _, _, _, _, _, _, _, _, _, _, _, _]⟩] ?_
   refine CD.ret ?_
   refine ⟨.inr rfl, _, [], List.nil_sublist _, ret_one results15 (res_cells (k := 1) (ds := [_, _, _, _, _, _, _, _, _, _, _, _]) le_ lk rfl rfl isAgg32 sizeOf32 rfl rfl), ?_⟩
   exact ⟨{ s with wher := opsAt 3 (.mk y1 y2 y3 ts2) }, rfl, rfl, hgood⟩
  have hgood := hpre.good
  refine CD.skip ?_
  refine sr_ ?_
  refine os_ (lab_ 0 [_, _, _, _, _, _, _, _, _, _, _, _]) ?_
  refine ot_ 1 [_, _, _, _, _, _, _, _, _, _, _, _] sizeOf32 ?_
  refine on_ [(2, _)] [⟨b3, 32, 12, [_, _, _, _, _, _, _, _, _, _, _, _]⟩, ⟨b2, 32, 12, [_, _, _, _, _, _, _, _, _, _, _, _]⟩, ⟨b1, 47, 14, [_, _, _, _, _, _, _, _, _, _, _, _, _, _]⟩] ?_
  refine CD.ret ?_
  refine ⟨.inr rfl, _, [], List.nil_sublist _, ret_one results15 (res_cells (k := 1) (ds := [_, _, _, _, _, _, _, _, _, _, _, _]) le_ lk rfl rfl isAgg32 sizeOf32 rfl rfl), ?_⟩
  exact ⟨s, rfl, rfl, hgood⟩
 have hg101' := hg101; (try simp only [V.cnd, ne_eq] at hg101')
 refine sk_ ?_
 refine sk_ ?_
 refine sk_ ?_
 refine os_ pkF_ ?_
 refine nm_ [1, 2, 3, 105] ?_
 refine CD.condF ot (by first | rfl | assumption) ?_
 have hgood := hpre.good
 refine CD.skip ?_
 refine sr_ ?_
 refine os_ (lab_ 0 [_, _, _, _, _, _, _, _, _, _, _, _]) ?_
 refine ot_ 1 [_, _, _, _, _, _, _, _, _, _, _, _] sizeOf32 ?_
 refine on_ [(2, _)] [⟨b3, 32, 12, [_, _, _, _, _, _, _, _, _, _, _, _]⟩, ⟨b2, 32, 12, [_, _, _, _, _, _, _, _, _, _, _, _]⟩, ⟨b1, 47, 14, [_, _, _, _, _, _, _, _, _, _, _, _, _, _]⟩] ?_
 refine CD.ret ?_
 refine ⟨.inr rfl, _, [], List.nil_sublist _, ret_one results15 (res_cells (k := 1) (ds := [_, _, _, _, _, _, _, _, _, _, _, _]) le_ lk rfl rfl isAgg32 sizeOf32 rfl rfl), ?_⟩
 exact ⟨s, rfl, rfl, hgood⟩

end Go.Proofs.YtjgekbmahhhokaaDoor.Pa

namespace Go.Proofs.YtjgekbmahhhokaaDoor.Pa
open Go.Proofs.Tryd
open Go.RowKit V Pk Go.Proofs.YtjgekbmahhhokaaDoor.Vl Go.Proofs.YtjgekbmahhhokaaDoor.Nm
variable {G : List (Nat × List Value)}
def dvS (s : StL) (r : D) : Prop := r = .agg (cSt s) ∧ okS s

theorem places32_Pbb : ∀ w, ((#[{ name := "Kind", type := 3, offset := 0, embedded := false, tag := "", pkgPath := "", byteOffset := 0 }, { name := "Table", type := 9, offset := 1, embedded := false, tag := "", pkgPath := "", byteOffset := 8 }, { name := "Cols", type := 27, offset := 2, embedded := false, tag := "", pkgPath := "", byteOffset := 24 }, { name := "Row", type := 28, offset := 3, embedded := false, tag := "", pkgPath := "", byteOffset := 48 }, { name := "Names", type := 29, offset := 4, embedded := false, tag := "", pkgPath := "", byteOffset := 72 }, { name := "Count", type := 4, offset := 5, embedded := false, tag := "", pkgPath := "", byteOffset := 96 }, { name := "Where", type := 30, offset := 6, embedded := false, tag := "", pkgPath := "", byteOffset := 104 }, { name := "Order", type := 9, offset := 7, embedded := false, tag := "", pkgPath := "", byteOffset := 128 }, { name := "Down", type := 4, offset := 8, embedded := false, tag := "", pkgPath := "", byteOffset := 144 }, { name := "Limit", type := 3, offset := 9, embedded := false, tag := "", pkgPath := "", byteOffset := 152 }, { name := "Set", type := 9, offset := 10, embedded := false, tag := "", pkgPath := "", byteOffset := 160 }, { name := "To", type := 30, offset := 11, embedded := false, tag := "", pkgPath := "", byteOffset := 176 }] : Array Field).mapM fun f => do pure (f.offset, ← sizeOf f.type) : Sem (Array (Nat × Nat))).run Tryd.prog w = .ok #[(0, 1), (1, 1), (2, 1), (3, 1), (4, 1), (5, 1), (6, 1), (7, 1), (8, 1), (9, 1), (10, 1), (11, 1)] w := fun w => by simp [sizeOf27, sizeOf28, sizeOf29, sizeOf3, sizeOf30, sizeOf4, sizeOf9]

theorem statement_vx {br : Nat} {l : List Tk} (hl : l.length ≤ 100) (hm : (0, marksC) ∈ G) (hw : (2, wordsC) ∈ G) (hk : (5, cmpC) ∈ G) (hty : (1, typesC) ∈ G) (ht : ∀ t ∈ l, t.s.size ≤ maxLen ∧ (t.k = 2 → 0 ≤ t.n ∧ t.n ≤ 9223372036854775807)) (p : Nat) (hp : p ≤ l.length) (os : List OpL) (R : Rs StL) (hR : R = stP l p os) (ad : Option Addr) (n cap : Nat) : VX Tryd.prog G 25 [.v (.pointer (some ⟨br, 0, none⟩))] [⟨br, 70, 3, [.list 3 (l.flatMap cT) l.length, .v (.int .i64 ((p : Nat) : Int)), .v (.slice ad n cap)]⟩] (fun r S' => EndR br l R dvS r S') (PanX R) := by
 refine VX.body func25 rfl ntmps25 le_ fun X0 w0 S00 => ?_
 refine sr_ ?_
 refine OD.alloc (ds := [_, _, _, _, _, _, _, _, _, _, _, _]) wp_ rfl rfl zeroValue32 rfl (fun b2 => ?_)
 refine on_ [(0, _), (2, _)] [⟨b2, 32, 12, [_, _, _, _, _, _, _, _, _, _, _, _]⟩, ⟨br, 70, 3, [_, _, _]⟩] ?_
 refine sr_ ?_
 refine os_ (still_bld (pl := [(9, _)]) (ds := [_, _, _, _, _, _, _, _, _, _, _, _]) rfl zeroValue32 runUnderlying32 places32_Pbb ⟨rfl, opd_const, trivial⟩ rfl rfl) ?_
 refine OD.alloc (ds := [_, _, _, _, _, _, _, _, _, _, _, _]) wp_ rfl rfl zeroValue32 rfl (fun b3 => ?_)
 refine ot_ 0 [_, _, _, _, _, _, _, _, _, _, _, _] sizeOf32 ?_
 refine on_ [(0, _), (2, _), (3, _)] [⟨b3, 32, 12, [_, _, _, _, _, _, _, _, _, _, _, _]⟩, ⟨b2, 32, 12, [_, _, _, _, _, _, _, _, _, _, _, _]⟩, ⟨br, 70, 3, [_, _, _]⟩] ?_
 refine CD.seq ?_
 refine CD.block ?_
 refine CD.seq ?_
 refine CD.perm (S' := [_, _, _]) (List.perm_append_comm (l₁ := [_, _]) (l₂ := [_])) ?_
 refine CD.cells (k := 1) (cs' := [_, _, .list 2 [] 0, .list 3 [] 0, _, _, .list 5 [] 0, _, _, _, _, .list 5 [] 0]) (S' := [⟨br, 70, 3, [.list 3 (l.flatMap cT) l.length, .v (.int .i64 ((p : Nat) : Int)), .v (.slice ad n cap)]⟩, _, _]) rfl (by repeat (first | exact trivial | exact ⟨gv_rfl, trivial⟩ | exact ⟨gv_nil, trivial⟩ | refine ⟨gv_rfl, ?_⟩ | refine ⟨gv_nil, ?_⟩)) rfl ?_
 refine CD.region ?_
 refine om_ ?_
 refine OD.call wp_ rfl rfl rfl call43 (eat_vc l hl p 1 ⟨#[67, 82, 69, 65, 84, 69]⟩ ad n cap br) ⟨ot, opd_const, opd_const, trivial⟩ (List.Perm.refl _) ?_
 rintro _ _ ⟨rfl, rfl⟩
 refine OD.perm (S' := ⟨br, 70, 3, [.list 3 (l.flatMap cT) l.length, .v (.int .i64 (((if isQ l p 1 ⟨#[67, 82, 69, 65, 84, 69]⟩ = true then p + 1 else p) : Nat) : Int)), .v (.slice ad n cap)]⟩ :: [⟨b3, 32, 12, [_, _, _, _, _, _, _, _, _, _, _, _]⟩, ⟨b2, 32, 12, [_, _, _, _, _, _, _, _, _, _, _, _]⟩]) (List.Perm.refl _) ?_
 refine om_ ?_
 refine on_ [(0, _), (2, _), (3, _), (7, _)] [⟨br, 70, 3, [_, _, _]⟩, ⟨b3, 32, 12, [_, _, _, _, _, _, _, _, _, _, _, _]⟩, ⟨b2, 32, 12, [_, _, _, _, _, _, _, _, _, _, _, _]⟩] ?_
 refine CD.cond ot (fun hc0 => ?_) (fun hc0 => ?_)
 ·have hc0' := hc0
  (try simp only [V.cnd, ne_eq] at hc0')
  have e0t : isQ l p 1 ⟨#[67, 82, 69, 65, 84, 69]⟩ = true := hc0
  rw [e0t]
  simp only [if_true]
  have hR1 : R = (mustP l [⟨#[84, 65, 66, 76, 69]⟩] (p + 1) os).bind (fun _ p ops => (nameP l p ops).bind (fun t p ops => (colsB l p ops).bind (fun c p ops => .ok { st0 with kind := 1, table := t, cols := c } p ops))) := hR.trans (by unfold stP; rw [if_pos e0t])
  refine sr_ ?_
  refine om_ ?_
  refine ob_ (numD 0 [_]) [.string ⟨#[]⟩] [_] zeroValue9 runUnderlying29 sizeOf9 (fun b11 => ?_)
  refine og_ 0 11 1 1 ?_
  refine OD.callX wp_ rfl rfl rfl call44 (must_vx l hl [⟨#[84, 65, 66, 76, 69]⟩] (by decide) (p + 1) ad n cap br) ⟨ot, by exact rfl, trivial⟩ (List.Perm.refl _) (fun ch hch => (Or.inr ⟨ch, rfl, by obtain ⟨q, e, h1, h2⟩ := hch; exact ⟨q, e, hR1.trans (by rw [h1]; rfl), h2⟩⟩ : BodyX _ _ _ _ _ _)) ?_
  rintro _ _ ⟨p2, hr2, rfl⟩
  refine OD.perm (S' := ⟨br, 70, 3, [.list 3 (l.flatMap cT) l.length, .v (.int .i64 ((p2 : Nat) : Int)), .v (.slice ad n cap)]⟩ :: [⟨b3, 32, 12, [_, _, _, _, _, _, _, _, _, _, _, _]⟩, ⟨b2, 32, 12, [_, _, _, _, _, _, _, _, _, _, _, _]⟩]) (List.Perm.refl _) ?_
  have hp2 := (must_le (hr2 []) (isQ_lt e0t)).2.1
  have hR2 : R = (nameP l p2 os).bind (fun t p ops => (colsB l p ops).bind (fun c p ops => .ok { st0 with kind := 1, table := t, cols := c } p ops)) := hR1.trans (by rw [hr2]; rfl)
  refine on_ [(0, _), (2, _), (3, _)] [⟨br, 70, 3, [_, _, _]⟩, ⟨b3, 32, 12, [_, _, _, _, _, _, _, _, _, _, _, _]⟩, ⟨b2, 32, 12, [_, _, _, _, _, _, _, _, _, _, _, _]⟩] ?_
  refine sr_ ?_
  refine om_ ?_
  refine OD.callX wp_ rfl rfl rfl call45 (name_vx hm hw l hl ht p2 ad n cap br) ⟨ot, trivial⟩ (List.Perm.refl _) (fun ch hch => (Or.inr ⟨ch, rfl, by obtain ⟨q, e, h1, h2⟩ := hch; exact ⟨q, e, hR2.trans (by rw [h1]; rfl), h2⟩⟩ : BodyX _ _ _ _ _ _)) ?_
  rintro _ _ ⟨t, hr3, rfl, rfl⟩
  refine OD.perm (S' := ⟨br, 70, 3, [.list 3 (l.flatMap cT) l.length, .v (.int .i64 (((p2 + 1) : Nat) : Int)), .v (.slice ad n cap)]⟩ :: [⟨b3, 32, 12, [_, _, _, _, _, _, _, _, _, _, _, _]⟩, ⟨b2, 32, 12, [_, _, _, _, _, _, _, _, _, _, _, _]⟩]) (List.Perm.refl _) ?_
  have hlt3 := (name_le (hr3 [])).2.2
  have hR3 : R = (colsB l (p2 + 1) os).bind (fun c p ops => .ok { st0 with kind := 1, table := t, cols := c } p ops) := hR2.trans (by rw [hr3]; rfl)
  refine os_ (fa_ 0) ?_
  refine ot_ 1 [_, _, _, _, _, _, _, _, _, _, _, _] sizeOf3 ?_
  refine os_ (fa_ 1) ?_
  refine ot_ 1 [_, _, _, _, _, _, _, _, _, _, _, _] sizeOf9 ?_
  refine on_ [(0, _), (2, _), (3, _)] [⟨br, 70, 3, [_, _, _]⟩, ⟨b3, 32, 12, [_, _, _, _, _, _, _, _, _, _, _, _]⟩, ⟨b2, 32, 12, [_, _, _, _, _, _, _, _, _, _, _, _]⟩] ?_
  refine CD.region ?_
  refine om_ ?_
  refine OD.callX wp_ rfl rfl rfl call46 (columns_vx hl hm hw hty ht (p2 + 1) hlt3 os (colsB l (p2 + 1) os) rfl ad n cap) ⟨ot, trivial⟩ (List.Perm.refl _) (fun ch hch => (Or.inr ⟨ch, rfl, by obtain ⟨q, e, h1, h2⟩ := hch; exact ⟨q, e, hR3.trans (by rw [h1]; rfl), h2⟩⟩ : BodyX _ _ _ _ _ _)) ?_
  rintro _ _ ⟨c, p4, o4, ad4, n4, cap4, hr4, ⟨rfl, hv_c⟩, hp4, rfl⟩
  refine OD.perm (S' := ⟨br, 70, 3, [.list 3 (l.flatMap cT) l.length, .v (.int .i64 ((p4 : Nat) : Int)), .v (.slice ad4 n4 cap4)]⟩ :: [⟨b3, 32, 12, [_, _, _, _, _, _, _, _, _, _, _, _]⟩, ⟨b2, 32, 12, [_, _, _, _, _, _, _, _, _, _, _, _]⟩]) (List.Perm.refl _) ?_
  have hR4 : R = .ok { st0 with kind := 1, table := t, cols := c } p4 o4 := hR3.trans (by rw [hr4]; rfl)
  refine os_ (fa_ 2) ?_
  refine ot_ 1 [_, _, _, _, _, _, _, _, _, _, _, _] sizeOf27 ?_
  refine on_ [(2, _), (3, _)] [⟨br, 70, 3, [_, _, _]⟩, ⟨b3, 32, 12, [_, _, _, _, _, _, _, _, _, _, _, _]⟩, ⟨b2, 32, 12, [_, _, _, _, _, _, _, _, _, _, _, _]⟩] ?_
  refine CD.seq ?_
  refine CD.cells (k := 1) (cs' := [_, _, _, _, .list 1 [] 0, _, _, _, _, _, _, _]) (S' := [⟨br, 70, 3, [.list 3 (l.flatMap cT) l.length, .v (.int .i64 ((p4 : Nat) : Int)), .v (.slice ad4 n4 cap4)]⟩, _, _]) rfl (by repeat (first | exact trivial | exact ⟨gv_rfl, trivial⟩ | exact ⟨gv_nil, trivial⟩ | refine ⟨gv_rfl, ?_⟩ | refine ⟨gv_nil, ?_⟩)) rfl ?_
  refine CD.region ?_
  refine os_ (lab_ 1 [_, _, _, _, _, _, _, _, _, _, _, _]) ?_
  refine ot_ 2 [_, _, _, _, _, _, _, _, _, _, _, _] sizeOf32 ?_
  refine on_ [(2, _)] [⟨br, 70, 3, [_, _, _]⟩, ⟨b3, 32, 12, [_, _, _, _, _, _, _, _, _, _, _, _]⟩, ⟨b2, 32, 12, [_, _, _, _, _, _, _, _, _, _, _, _]⟩] ?_
  refine CD.ret ?_
  refine Or.inl ?_
  refine ⟨.inr rfl, _, [⟨br, 70, 3, [.list 3 (l.flatMap cT) l.length, .v (.int .i64 ((p4 : Nat) : Int)), .v (.slice ad4 n4 cap4)]⟩], sw_, ret_one results25 (res_cells (k := 2) (ds := [_, _, _, _, _, _, _, _, _, _, _, _]) le_ lk rfl rfl isAgg32 sizeOf32 rfl rfl), ?_⟩
  exact ⟨{ st0 with kind := 1, table := t, cols := c }, p4, o4, _, _, _, hR4, ⟨rfl, ⟨hv_c, Nat.zero_le _, Nat.zero_le _, Nat.zero_le _, Nat.zero_le _⟩⟩, hp4, rfl⟩
 have hc0' := hc0
 (try simp only [V.cnd, ne_eq] at hc0')
 have e0f : isQ l p 1 ⟨#[67, 82, 69, 65, 84, 69]⟩ = false := hc0
 rw [e0f]
 simp only [Bool.false_eq_true, if_false]
 refine sr_ ?_
 refine om_ ?_
 refine OD.call wp_ rfl rfl rfl call43 (eat_vc l hl p 1 ⟨#[68, 82, 79, 80]⟩ ad n cap br) ⟨ot, opd_const, opd_const, trivial⟩ (List.Perm.refl _) ?_
 rintro _ _ ⟨rfl, rfl⟩
 refine OD.perm (S' := ⟨br, 70, 3, [.list 3 (l.flatMap cT) l.length, .v (.int .i64 (((if isQ l p 1 ⟨#[68, 82, 79, 80]⟩ = true then p + 1 else p) : Nat) : Int)), .v (.slice ad n cap)]⟩ :: [⟨b3, 32, 12, [_, _, _, _, _, _, _, _, _, _, _, _]⟩, ⟨b2, 32, 12, [_, _, _, _, _, _, _, _, _, _, _, _]⟩]) (List.Perm.refl _) ?_
 refine om_ ?_
 refine on_ [(0, _), (2, _), (3, _), (20, _)] [⟨br, 70, 3, [_, _, _]⟩, ⟨b3, 32, 12, [_, _, _, _, _, _, _, _, _, _, _, _]⟩, ⟨b2, 32, 12, [_, _, _, _, _, _, _, _, _, _, _, _]⟩] ?_
 refine CD.cond ot (fun hc1 => ?_) (fun hc1 => ?_)
 ·have hc1' := hc1
  (try simp only [V.cnd, ne_eq] at hc1')
  have e1t : isQ l p 1 ⟨#[68, 82, 79, 80]⟩ = true := hc1
  rw [e1t]
  simp only [if_true]
  have hR5 : R = (mustP l [⟨#[84, 65, 66, 76, 69]⟩] (p + 1) os).bind (fun _ p ops => (nameP l p ops).bind (fun t p ops => .ok { st0 with kind := 2, table := t } p ops)) := hR.trans (by unfold stP; rw [if_neg (F_ e0f), if_pos e1t])
  refine sr_ ?_
  refine om_ ?_
  refine ob_ (numD 0 [_]) [.string ⟨#[]⟩] [_] zeroValue9 runUnderlying29 sizeOf9 (fun b24 => ?_)
  refine og_ 0 24 1 1 ?_
  refine OD.callX wp_ rfl rfl rfl call44 (must_vx l hl [⟨#[84, 65, 66, 76, 69]⟩] (by decide) (p + 1) ad n cap br) ⟨ot, by exact rfl, trivial⟩ (List.Perm.refl _) (fun ch hch => (Or.inr ⟨ch, rfl, by obtain ⟨q, e, h1, h2⟩ := hch; exact ⟨q, e, hR5.trans (by rw [h1]; rfl), h2⟩⟩ : BodyX _ _ _ _ _ _)) ?_
  rintro _ _ ⟨p6, hr6, rfl⟩
  refine OD.perm (S' := ⟨br, 70, 3, [.list 3 (l.flatMap cT) l.length, .v (.int .i64 ((p6 : Nat) : Int)), .v (.slice ad n cap)]⟩ :: [⟨b3, 32, 12, [_, _, _, _, _, _, _, _, _, _, _, _]⟩, ⟨b2, 32, 12, [_, _, _, _, _, _, _, _, _, _, _, _]⟩]) (List.Perm.refl _) ?_
  have hp6 := (must_le (hr6 []) (isQ_lt e1t)).2.1
  have hR6 : R = (nameP l p6 os).bind (fun t p ops => .ok { st0 with kind := 2, table := t } p ops) := hR5.trans (by rw [hr6]; rfl)
  refine on_ [(0, _), (2, _), (3, _)] [⟨br, 70, 3, [_, _, _]⟩, ⟨b3, 32, 12, [_, _, _, _, _, _, _, _, _, _, _, _]⟩, ⟨b2, 32, 12, [_, _, _, _, _, _, _, _, _, _, _, _]⟩] ?_
  refine CD.region ?_
  refine om_ ?_
  refine OD.callX wp_ rfl rfl rfl call45 (name_vx hm hw l hl ht p6 ad n cap br) ⟨ot, trivial⟩ (List.Perm.refl _) (fun ch hch => (Or.inr ⟨ch, rfl, by obtain ⟨q, e, h1, h2⟩ := hch; exact ⟨q, e, hR6.trans (by rw [h1]; rfl), h2⟩⟩ : BodyX _ _ _ _ _ _)) ?_
  rintro _ _ ⟨t, hr7, rfl, rfl⟩
  refine OD.perm (S' := ⟨br, 70, 3, [.list 3 (l.flatMap cT) l.length, .v (.int .i64 (((p6 + 1) : Nat) : Int)), .v (.slice ad n cap)]⟩ :: [⟨b3, 32, 12, [_, _, _, _, _, _, _, _, _, _, _, _]⟩, ⟨b2, 32, 12, [_, _, _, _, _, _, _, _, _, _, _, _]⟩]) (List.Perm.refl _) ?_
  have hlt7 := (name_le (hr7 [])).2.2
  have hR7 : R = .ok { st0 with kind := 2, table := t } (p6 + 1) os := hR6.trans (by rw [hr7]; rfl)
  refine os_ (fa_ 0) ?_
  refine ot_ 1 [_, _, _, _, _, _, _, _, _, _, _, _] sizeOf3 ?_
  refine os_ (fa_ 1) ?_
  refine ot_ 1 [_, _, _, _, _, _, _, _, _, _, _, _] sizeOf9 ?_
  refine on_ [(2, _), (3, _)] [⟨br, 70, 3, [_, _, _]⟩, ⟨b3, 32, 12, [_, _, _, _, _, _, _, _, _, _, _, _]⟩, ⟨b2, 32, 12, [_, _, _, _, _, _, _, _, _, _, _, _]⟩] ?_
  refine CD.seq ?_
  refine CD.cells (k := 1) (cs' := [_, _, _, _, .list 1 [] 0, _, _, _, _, _, _, _]) (S' := [⟨br, 70, 3, [.list 3 (l.flatMap cT) l.length, .v (.int .i64 (((p6 + 1) : Nat) : Int)), .v (.slice ad n cap)]⟩, _, _]) rfl (by repeat (first | exact trivial | exact ⟨gv_rfl, trivial⟩ | exact ⟨gv_nil, trivial⟩ | refine ⟨gv_rfl, ?_⟩ | refine ⟨gv_nil, ?_⟩)) rfl ?_
  refine CD.region ?_
  refine os_ (lab_ 1 [_, _, _, _, _, _, _, _, _, _, _, _]) ?_
  refine ot_ 2 [_, _, _, _, _, _, _, _, _, _, _, _] sizeOf32 ?_
  refine on_ [(2, _)] [⟨br, 70, 3, [_, _, _]⟩, ⟨b3, 32, 12, [_, _, _, _, _, _, _, _, _, _, _, _]⟩, ⟨b2, 32, 12, [_, _, _, _, _, _, _, _, _, _, _, _]⟩] ?_
  refine CD.ret ?_
  refine Or.inl ?_
  refine ⟨.inr rfl, _, [⟨br, 70, 3, [.list 3 (l.flatMap cT) l.length, .v (.int .i64 (((p6 + 1) : Nat) : Int)), .v (.slice ad n cap)]⟩], sw_, ret_one results25 (res_cells (k := 2) (ds := [_, _, _, _, _, _, _, _, _, _, _, _]) le_ lk rfl rfl isAgg32 sizeOf32 rfl rfl), ?_⟩
  exact ⟨{ st0 with kind := 2, table := t }, (p6 + 1), os, _, _, _, hR7, ⟨rfl, ⟨Nat.zero_le _, Nat.zero_le _, Nat.zero_le _, Nat.zero_le _, Nat.zero_le _⟩⟩, hlt7, rfl⟩
 have hc1' := hc1
 (try simp only [V.cnd, ne_eq] at hc1')
 have e1f : isQ l p 1 ⟨#[68, 82, 79, 80]⟩ = false := hc1
 rw [e1f]
 simp only [Bool.false_eq_true, if_false]
 refine sr_ ?_
 refine om_ ?_
 refine OD.call wp_ rfl rfl rfl call43 (eat_vc l hl p 1 ⟨#[73, 78, 83, 69, 82, 84]⟩ ad n cap br) ⟨ot, opd_const, opd_const, trivial⟩ (List.Perm.refl _) ?_
 rintro _ _ ⟨rfl, rfl⟩
 refine OD.perm (S' := ⟨br, 70, 3, [.list 3 (l.flatMap cT) l.length, .v (.int .i64 (((if isQ l p 1 ⟨#[73, 78, 83, 69, 82, 84]⟩ = true then p + 1 else p) : Nat) : Int)), .v (.slice ad n cap)]⟩ :: [⟨b3, 32, 12, [_, _, _, _, _, _, _, _, _, _, _, _]⟩, ⟨b2, 32, 12, [_, _, _, _, _, _, _, _, _, _, _, _]⟩]) (List.Perm.refl _) ?_
 refine om_ ?_
 refine on_ [(0, _), (2, _), (3, _), (30, _)] [⟨br, 70, 3, [_, _, _]⟩, ⟨b3, 32, 12, [_, _, _, _, _, _, _, _, _, _, _, _]⟩, ⟨b2, 32, 12, [_, _, _, _, _, _, _, _, _, _, _, _]⟩] ?_
 refine CD.cond ot (fun hc2 => ?_) (fun hc2 => ?_)
 ·have hc2' := hc2
  (try simp only [V.cnd, ne_eq] at hc2')
  have e2t : isQ l p 1 ⟨#[73, 78, 83, 69, 82, 84]⟩ = true := hc2
  rw [e2t]
  simp only [if_true]
  have hR8 : R = (mustP l [⟨#[73, 78, 84, 79]⟩] (p + 1) os).bind (fun _ p ops => (nameP l p ops).bind (fun t p ops => (mustP l [⟨#[86, 65, 76, 85, 69, 83]⟩] p ops).bind (fun _ p ops => (rowB l p ops).bind (fun r p ops => .ok { st0 with kind := 3, table := t, row := r } p ops)))) := hR.trans (by unfold stP; rw [if_neg (F_ e0f), if_neg (F_ e1f), if_pos e2t])
  refine sr_ ?_
  refine om_ ?_
  refine ob_ (numD 0 [_]) [.string ⟨#[]⟩] [_] zeroValue9 runUnderlying29 sizeOf9 (fun b34 => ?_)
  refine og_ 0 34 1 1 ?_
  refine OD.callX wp_ rfl rfl rfl call44 (must_vx l hl [⟨#[73, 78, 84, 79]⟩] (by decide) (p + 1) ad n cap br) ⟨ot, by exact rfl, trivial⟩ (List.Perm.refl _) (fun ch hch => (Or.inr ⟨ch, rfl, by obtain ⟨q, e, h1, h2⟩ := hch; exact ⟨q, e, hR8.trans (by rw [h1]; rfl), h2⟩⟩ : BodyX _ _ _ _ _ _)) ?_
  rintro _ _ ⟨p9, hr9, rfl⟩
  refine OD.perm (S' := ⟨br, 70, 3, [.list 3 (l.flatMap cT) l.length, .v (.int .i64 ((p9 : Nat) : Int)), .v (.slice ad n cap)]⟩ :: [⟨b3, 32, 12, [_, _, _, _, _, _, _, _, _, _, _, _]⟩, ⟨b2, 32, 12, [_, _, _, _, _, _, _, _, _, _, _, _]⟩]) (List.Perm.refl _) ?_
  have hp9 := (must_le (hr9 []) (isQ_lt e2t)).2.1
  have hR9 : R = (nameP l p9 os).bind (fun t p ops => (mustP l [⟨#[86, 65, 76, 85, 69, 83]⟩] p ops).bind (fun _ p ops => (rowB l p ops).bind (fun r p ops => .ok { st0 with kind := 3, table := t, row := r } p ops))) := hR8.trans (by rw [hr9]; rfl)
  refine on_ [(0, _), (2, _), (3, _)] [⟨br, 70, 3, [_, _, _]⟩, ⟨b3, 32, 12, [_, _, _, _, _, _, _, _, _, _, _, _]⟩, ⟨b2, 32, 12, [_, _, _, _, _, _, _, _, _, _, _, _]⟩] ?_
  refine sr_ ?_
  refine om_ ?_
  refine OD.callX wp_ rfl rfl rfl call45 (name_vx hm hw l hl ht p9 ad n cap br) ⟨ot, trivial⟩ (List.Perm.refl _) (fun ch hch => (Or.inr ⟨ch, rfl, by obtain ⟨q, e, h1, h2⟩ := hch; exact ⟨q, e, hR9.trans (by rw [h1]; rfl), h2⟩⟩ : BodyX _ _ _ _ _ _)) ?_
  rintro _ _ ⟨t, hr10, rfl, rfl⟩
  refine OD.perm (S' := ⟨br, 70, 3, [.list 3 (l.flatMap cT) l.length, .v (.int .i64 (((p9 + 1) : Nat) : Int)), .v (.slice ad n cap)]⟩ :: [⟨b3, 32, 12, [_, _, _, _, _, _, _, _, _, _, _, _]⟩, ⟨b2, 32, 12, [_, _, _, _, _, _, _, _, _, _, _, _]⟩]) (List.Perm.refl _) ?_
  have hlt10 := (name_le (hr10 [])).2.2
  have hR10 : R = (mustP l [⟨#[86, 65, 76, 85, 69, 83]⟩] (p9 + 1) os).bind (fun _ p ops => (rowB l p ops).bind (fun r p ops => .ok { st0 with kind := 3, table := t, row := r } p ops)) := hR9.trans (by rw [hr10]; rfl)
  refine os_ (fa_ 0) ?_
  refine ot_ 1 [_, _, _, _, _, _, _, _, _, _, _, _] sizeOf3 ?_
  refine os_ (fa_ 1) ?_
  refine ot_ 1 [_, _, _, _, _, _, _, _, _, _, _, _] sizeOf9 ?_
  refine on_ [(0, _), (2, _), (3, _)] [⟨br, 70, 3, [_, _, _]⟩, ⟨b3, 32, 12, [_, _, _, _, _, _, _, _, _, _, _, _]⟩, ⟨b2, 32, 12, [_, _, _, _, _, _, _, _, _, _, _, _]⟩] ?_
  refine sr_ ?_
  refine om_ ?_
  refine ob_ (numD 0 [_]) [.string ⟨#[]⟩] [_] zeroValue9 runUnderlying29 sizeOf9 (fun b41 => ?_)
  refine og_ 0 41 1 1 ?_
  refine OD.callX wp_ rfl rfl rfl call44 (must_vx l hl [⟨#[86, 65, 76, 85, 69, 83]⟩] (by decide) (p9 + 1) ad n cap br) ⟨ot, by exact rfl, trivial⟩ (List.Perm.refl _) (fun ch hch => (Or.inr ⟨ch, rfl, by obtain ⟨q, e, h1, h2⟩ := hch; exact ⟨q, e, hR10.trans (by rw [h1]; rfl), h2⟩⟩ : BodyX _ _ _ _ _ _)) ?_
  rintro _ _ ⟨p11, hr11, rfl⟩
  refine OD.perm (S' := ⟨br, 70, 3, [.list 3 (l.flatMap cT) l.length, .v (.int .i64 ((p11 : Nat) : Int)), .v (.slice ad n cap)]⟩ :: [⟨b3, 32, 12, [_, _, _, _, _, _, _, _, _, _, _, _]⟩, ⟨b2, 32, 12, [_, _, _, _, _, _, _, _, _, _, _, _]⟩]) (List.Perm.refl _) ?_
  have hp11 := (must_le (hr11 []) hlt10).2.1
  have hR11 : R = (rowB l p11 os).bind (fun r p ops => .ok { st0 with kind := 3, table := t, row := r } p ops) := hR10.trans (by rw [hr11]; rfl)
  refine on_ [(0, _), (2, _), (3, _)] [⟨br, 70, 3, [_, _, _]⟩, ⟨b3, 32, 12, [_, _, _, _, _, _, _, _, _, _, _, _]⟩, ⟨b2, 32, 12, [_, _, _, _, _, _, _, _, _, _, _, _]⟩] ?_
  refine CD.region ?_
  refine om_ ?_
  refine OD.callX wp_ rfl rfl rfl call47 (row_vx hl ht p11 hp11 os (rowB l p11 os) rfl ad n cap) ⟨ot, trivial⟩ (List.Perm.refl _) (fun ch hch => (Or.inr ⟨ch, rfl, by obtain ⟨q, e, h1, h2⟩ := hch; exact ⟨q, e, hR11.trans (by rw [h1]; rfl), h2⟩⟩ : BodyX _ _ _ _ _ _)) ?_
  rintro _ _ ⟨r, p12, o12, ad12, n12, cap12, hr12, ⟨rfl, hv_r⟩, hp12, rfl⟩
  refine OD.perm (S' := ⟨br, 70, 3, [.list 3 (l.flatMap cT) l.length, .v (.int .i64 ((p12 : Nat) : Int)), .v (.slice ad12 n12 cap12)]⟩ :: [⟨b3, 32, 12, [_, _, _, _, _, _, _, _, _, _, _, _]⟩, ⟨b2, 32, 12, [_, _, _, _, _, _, _, _, _, _, _, _]⟩]) (List.Perm.refl _) ?_
  have hR12 : R = .ok { st0 with kind := 3, table := t, row := r } p12 o12 := hR11.trans (by rw [hr12]; rfl)
  refine os_ (fa_ 3) ?_
  refine ot_ 1 [_, _, _, _, _, _, _, _, _, _, _, _] sizeOf28 ?_
  refine on_ [(2, _), (3, _)] [⟨br, 70, 3, [_, _, _]⟩, ⟨b3, 32, 12, [_, _, _, _, _, _, _, _, _, _, _, _]⟩, ⟨b2, 32, 12, [_, _, _, _, _, _, _, _, _, _, _, _]⟩] ?_
  refine CD.seq ?_
  refine CD.cells (k := 1) (cs' := [_, _, _, _, .list 1 [] 0, _, _, _, _, _, _, _]) (S' := [⟨br, 70, 3, [.list 3 (l.flatMap cT) l.length, .v (.int .i64 ((p12 : Nat) : Int)), .v (.slice ad12 n12 cap12)]⟩, _, _]) rfl (by repeat (first | exact trivial | exact ⟨gv_rfl, trivial⟩ | exact ⟨gv_nil, trivial⟩ | refine ⟨gv_rfl, ?_⟩ | refine ⟨gv_nil, ?_⟩)) rfl ?_
  refine CD.region ?_
  refine os_ (lab_ 1 [_, _, _, _, _, _, _, _, _, _, _, _]) ?_
  refine ot_ 2 [_, _, _, _, _, _, _, _, _, _, _, _] sizeOf32 ?_
  refine on_ [(2, _)] [⟨br, 70, 3, [_, _, _]⟩, ⟨b3, 32, 12, [_, _, _, _, _, _, _, _, _, _, _, _]⟩, ⟨b2, 32, 12, [_, _, _, _, _, _, _, _, _, _, _, _]⟩] ?_
  refine CD.ret ?_
  refine Or.inl ?_
  refine ⟨.inr rfl, _, [⟨br, 70, 3, [.list 3 (l.flatMap cT) l.length, .v (.int .i64 ((p12 : Nat) : Int)), .v (.slice ad12 n12 cap12)]⟩], sw_, ret_one results25 (res_cells (k := 2) (ds := [_, _, _, _, _, _, _, _, _, _, _, _]) le_ lk rfl rfl isAgg32 sizeOf32 rfl rfl), ?_⟩
  exact ⟨{ st0 with kind := 3, table := t, row := r }, p12, o12, _, _, _, hR12, ⟨rfl, ⟨Nat.zero_le _, hv_r, Nat.zero_le _, Nat.zero_le _, Nat.zero_le _⟩⟩, hp12, rfl⟩
 have hc2' := hc2
 (try simp only [V.cnd, ne_eq] at hc2')
 have e2f : isQ l p 1 ⟨#[73, 78, 83, 69, 82, 84]⟩ = false := hc2
 rw [e2f]
 simp only [Bool.false_eq_true, if_false]
 refine sr_ ?_
 refine om_ ?_
 refine OD.call wp_ rfl rfl rfl call43 (eat_vc l hl p 1 ⟨#[83, 69, 76, 69, 67, 84]⟩ ad n cap br) ⟨ot, opd_const, opd_const, trivial⟩ (List.Perm.refl _) ?_
 rintro _ _ ⟨rfl, rfl⟩
 refine OD.perm (S' := ⟨br, 70, 3, [.list 3 (l.flatMap cT) l.length, .v (.int .i64 (((if isQ l p 1 ⟨#[83, 69, 76, 69, 67, 84]⟩ = true then p + 1 else p) : Nat) : Int)), .v (.slice ad n cap)]⟩ :: [⟨b3, 32, 12, [_, _, _, _, _, _, _, _, _, _, _, _]⟩, ⟨b2, 32, 12, [_, _, _, _, _, _, _, _, _, _, _, _]⟩]) (List.Perm.refl _) ?_
 refine om_ ?_
 refine on_ [(0, _), (2, _), (3, _), (46, _)] [⟨br, 70, 3, [_, _, _]⟩, ⟨b3, 32, 12, [_, _, _, _, _, _, _, _, _, _, _, _]⟩, ⟨b2, 32, 12, [_, _, _, _, _, _, _, _, _, _, _, _]⟩] ?_
 refine CD.cond ot (fun hc3 => ?_) (fun hc3 => ?_)
 ·have hc3' := hc3
  (try simp only [V.cnd, ne_eq] at hc3')
  have e3t : isQ l p 1 ⟨#[83, 69, 76, 69, 67, 84]⟩ = true := hc3
  rw [e3t]
  simp only [if_true]
  have hR13 : R = pickP l (p + 1) os := hR.trans (by unfold stP; rw [if_neg (F_ e0f), if_neg (F_ e1f), if_neg (F_ e2f), if_pos e3t])
  refine sr_ ?_
  refine os_ (fa_ 0) ?_
  refine ot_ 1 [_, _, _, _, _, _, _, _, _, _, _, _] sizeOf3 ?_
  refine on_ [(0, _), (2, _), (3, _)] [⟨br, 70, 3, [_, _, _]⟩, ⟨b3, 32, 12, [_, _, _, _, _, _, _, _, _, _, _, _]⟩, ⟨b2, 32, 12, [_, _, _, _, _, _, _, _, _, _, _, _]⟩] ?_
  refine CD.region ?_
  refine om_ ?_
  refine OD.callX wp_ rfl rfl rfl call48 (pick_vx hl hm hw hk ht (p + 1) (isQ_lt e3t) os _ hR13 ad n cap b3) ⟨ot, ot, trivial⟩ (List.Perm.refl _) (fun ch hch => (Or.inr ⟨ch, rfl, hch⟩ : BodyX _ _ _ _ _ _)) ?_
  rintro _ _ ⟨s, p9, o9, ad9, n9, cap9, hr9, hok9, hp9, rfl⟩
  refine OD.perm (S' := [⟨br, 70, 3, [.list 3 (l.flatMap cT) l.length, .v (.int .i64 ((p9 : Nat) : Int)), .v (.slice ad9 n9 cap9)]⟩, ⟨b3, 32, 12, [_, _, _, _, _, _, _, _, _, _, _, _]⟩, ⟨b2, 32, 12, [_, _, _, _, _, _, _, _, _, _, _, _]⟩]) (List.Perm.refl _) ?_
  refine on_ [(2, _), (3, _)] [⟨br, 70, 3, [_, _, _]⟩, ⟨b3, 32, 12, [_, _, _, _, _, _, _, _, _, _, _, _]⟩, ⟨b2, 32, 12, [_, _, _, _, _, _, _, _, _, _, _, _]⟩] ?_
  refine CD.seq ?_
  refine CD.region ?_
  refine os_ (lab_ 1 [_, _, _, _, _, _, _, _, _, _, _, _]) ?_
  refine ot_ 2 [_, _, _, _, _, _, _, _, _, _, _, _] sizeOf32 ?_
  refine on_ [(2, _)] [⟨br, 70, 3, [_, _, _]⟩, ⟨b3, 32, 12, [_, _, _, _, _, _, _, _, _, _, _, _]⟩, ⟨b2, 32, 12, [_, _, _, _, _, _, _, _, _, _, _, _]⟩] ?_
  refine CD.ret ?_
  refine Or.inl ?_
  refine ⟨.inr rfl, _, [⟨br, 70, 3, [.list 3 (l.flatMap cT) l.length, .v (.int .i64 ((p9 : Nat) : Int)), .v (.slice ad9 n9 cap9)]⟩], sw_, ret_one results25 (res_cells (k := 2) (ds := [_, _, _, _, _, _, _, _, _, _, _, _]) le_ lk rfl rfl isAgg32 sizeOf32 rfl rfl), ?_⟩
  exact ⟨s, p9, o9, _, _, _, hr9, ⟨rfl, hok9⟩, hp9, rfl⟩
 have hc3' := hc3
 (try simp only [V.cnd, ne_eq] at hc3')
 have e3f : isQ l p 1 ⟨#[83, 69, 76, 69, 67, 84]⟩ = false := hc3
 rw [e3f]
 simp only [Bool.false_eq_true, if_false]
 refine sr_ ?_
 refine om_ ?_
 refine OD.call wp_ rfl rfl rfl call43 (eat_vc l hl p 1 ⟨#[85, 80, 68, 65, 84, 69]⟩ ad n cap br) ⟨ot, opd_const, opd_const, trivial⟩ (List.Perm.refl _) ?_
 rintro _ _ ⟨rfl, rfl⟩
 refine OD.perm (S' := ⟨br, 70, 3, [.list 3 (l.flatMap cT) l.length, .v (.int .i64 (((if isQ l p 1 ⟨#[85, 80, 68, 65, 84, 69]⟩ = true then p + 1 else p) : Nat) : Int)), .v (.slice ad n cap)]⟩ :: [⟨b3, 32, 12, [_, _, _, _, _, _, _, _, _, _, _, _]⟩, ⟨b2, 32, 12, [_, _, _, _, _, _, _, _, _, _, _, _]⟩]) (List.Perm.refl _) ?_
 refine om_ ?_
 refine on_ [(0, _), (2, _), (3, _), (52, _)] [⟨br, 70, 3, [_, _, _]⟩, ⟨b3, 32, 12, [_, _, _, _, _, _, _, _, _, _, _, _]⟩, ⟨b2, 32, 12, [_, _, _, _, _, _, _, _, _, _, _, _]⟩] ?_
 refine CD.cond ot (fun hc4 => ?_) (fun hc4 => ?_)
 ·have hc4' := hc4
  (try simp only [V.cnd, ne_eq] at hc4')
  have e4t : isQ l p 1 ⟨#[85, 80, 68, 65, 84, 69]⟩ = true := hc4
  rw [e4t]
  simp only [if_true]
  have hR14 : R = (nameP l (p + 1) os).bind (fun t p ops => (mustP l [⟨#[83, 69, 84]⟩] p ops).bind (fun _ p ops => (nameP l p ops).bind (fun c p ops => (markP l ⟨#[61]⟩ p ops).bind (fun _ p ops => (exprP l p).bind (fun e p ops => (whereP l p ops).bind (fun w p ops => .ok { st0 with kind := 5, table := t, set := c, to := e, wher := w } p ops)))))) := hR.trans (by unfold stP; rw [if_neg (F_ e0f), if_neg (F_ e1f), if_neg (F_ e2f), if_neg (F_ e3f), if_pos e4t])
  refine sr_ ?_
  refine om_ ?_
  refine OD.callX wp_ rfl rfl rfl call45 (name_vx hm hw l hl ht (p + 1) ad n cap br) ⟨ot, trivial⟩ (List.Perm.refl _) (fun ch hch => (Or.inr ⟨ch, rfl, by obtain ⟨q, e, h1, h2⟩ := hch; exact ⟨q, e, hR14.trans (by rw [h1]; rfl), h2⟩⟩ : BodyX _ _ _ _ _ _)) ?_
  rintro _ _ ⟨t, hr15, rfl, rfl⟩
  refine OD.perm (S' := ⟨br, 70, 3, [.list 3 (l.flatMap cT) l.length, .v (.int .i64 ((((p + 1) + 1) : Nat) : Int)), .v (.slice ad n cap)]⟩ :: [⟨b3, 32, 12, [_, _, _, _, _, _, _, _, _, _, _, _]⟩, ⟨b2, 32, 12, [_, _, _, _, _, _, _, _, _, _, _, _]⟩]) (List.Perm.refl _) ?_
  have hlt15 := (name_le (hr15 [])).2.2
  have hR15 : R = (mustP l [⟨#[83, 69, 84]⟩] ((p + 1) + 1) os).bind (fun _ p ops => (nameP l p ops).bind (fun c p ops => (markP l ⟨#[61]⟩ p ops).bind (fun _ p ops => (exprP l p).bind (fun e p ops => (whereP l p ops).bind (fun w p ops => .ok { st0 with kind := 5, table := t, set := c, to := e, wher := w } p ops))))) := hR14.trans (by rw [hr15]; rfl)
  refine os_ (fa_ 0) ?_
  refine ot_ 1 [_, _, _, _, _, _, _, _, _, _, _, _] sizeOf3 ?_
  refine os_ (fa_ 1) ?_
  refine ot_ 1 [_, _, _, _, _, _, _, _, _, _, _, _] sizeOf9 ?_
  refine on_ [(0, _), (2, _), (3, _)] [⟨br, 70, 3, [_, _, _]⟩, ⟨b3, 32, 12, [_, _, _, _, _, _, _, _, _, _, _, _]⟩, ⟨b2, 32, 12, [_, _, _, _, _, _, _, _, _, _, _, _]⟩] ?_
  refine sr_ ?_
  refine om_ ?_
  refine ob_ (numD 0 [_]) [.string ⟨#[]⟩] [_] zeroValue9 runUnderlying29 sizeOf9 (fun b60 => ?_)
  refine og_ 0 60 1 1 ?_
  refine OD.callX wp_ rfl rfl rfl call44 (must_vx l hl [⟨#[83, 69, 84]⟩] (by decide) ((p + 1) + 1) ad n cap br) ⟨ot, by exact rfl, trivial⟩ (List.Perm.refl _) (fun ch hch => (Or.inr ⟨ch, rfl, by obtain ⟨q, e, h1, h2⟩ := hch; exact ⟨q, e, hR15.trans (by rw [h1]; rfl), h2⟩⟩ : BodyX _ _ _ _ _ _)) ?_
  rintro _ _ ⟨p16, hr16, rfl⟩
  refine OD.perm (S' := ⟨br, 70, 3, [.list 3 (l.flatMap cT) l.length, .v (.int .i64 ((p16 : Nat) : Int)), .v (.slice ad n cap)]⟩ :: [⟨b3, 32, 12, [_, _, _, _, _, _, _, _, _, _, _, _]⟩, ⟨b2, 32, 12, [_, _, _, _, _, _, _, _, _, _, _, _]⟩]) (List.Perm.refl _) ?_
  have hp16 := (must_le (hr16 []) hlt15).2.1
  have hR16 : R = (nameP l p16 os).bind (fun c p ops => (markP l ⟨#[61]⟩ p ops).bind (fun _ p ops => (exprP l p).bind (fun e p ops => (whereP l p ops).bind (fun w p ops => .ok { st0 with kind := 5, table := t, set := c, to := e, wher := w } p ops)))) := hR15.trans (by rw [hr16]; rfl)
  refine on_ [(0, _), (2, _), (3, _)] [⟨br, 70, 3, [_, _, _]⟩, ⟨b3, 32, 12, [_, _, _, _, _, _, _, _, _, _, _, _]⟩, ⟨b2, 32, 12, [_, _, _, _, _, _, _, _, _, _, _, _]⟩] ?_
  refine sr_ ?_
  refine om_ ?_
  refine OD.callX wp_ rfl rfl rfl call45 (name_vx hm hw l hl ht p16 ad n cap br) ⟨ot, trivial⟩ (List.Perm.refl _) (fun ch hch => (Or.inr ⟨ch, rfl, by obtain ⟨q, e, h1, h2⟩ := hch; exact ⟨q, e, hR16.trans (by rw [h1]; rfl), h2⟩⟩ : BodyX _ _ _ _ _ _)) ?_
  rintro _ _ ⟨c, hr17, rfl, rfl⟩
  refine OD.perm (S' := ⟨br, 70, 3, [.list 3 (l.flatMap cT) l.length, .v (.int .i64 (((p16 + 1) : Nat) : Int)), .v (.slice ad n cap)]⟩ :: [⟨b3, 32, 12, [_, _, _, _, _, _, _, _, _, _, _, _]⟩, ⟨b2, 32, 12, [_, _, _, _, _, _, _, _, _, _, _, _]⟩]) (List.Perm.refl _) ?_
  have hlt17 := (name_le (hr17 [])).2.2
  have hR17 : R = (markP l ⟨#[61]⟩ (p16 + 1) os).bind (fun _ p ops => (exprP l p).bind (fun e p ops => (whereP l p ops).bind (fun w p ops => .ok { st0 with kind := 5, table := t, set := c, to := e, wher := w } p ops))) := hR16.trans (by rw [hr17]; rfl)
  refine os_ (fa_ 10) ?_
  refine ot_ 1 [_, _, _, _, _, _, _, _, _, _, _, _] sizeOf9 ?_
  refine on_ [(0, _), (2, _), (3, _)] [⟨br, 70, 3, [_, _, _]⟩, ⟨b3, 32, 12, [_, _, _, _, _, _, _, _, _, _, _, _]⟩, ⟨b2, 32, 12, [_, _, _, _, _, _, _, _, _, _, _, _]⟩] ?_
  refine sr_ ?_
  refine om_ ?_
  refine OD.callX wp_ rfl rfl rfl call49 (mark_vx l hl (p16 + 1) ⟨#[61]⟩ ad n cap br) ⟨ot, opd_const, trivial⟩ (List.Perm.refl _) (fun ch hch => (Or.inr ⟨ch, rfl, ⟨_, _, hR17.trans (by rw [mark_no hch.1]; rfl), hch.2⟩⟩ : BodyX _ _ _ _ _ _)) ?_
  rintro _ _ ⟨hm18, rfl⟩
  refine OD.perm (S' := ⟨br, 70, 3, [.list 3 (l.flatMap cT) l.length, .v (.int .i64 ((((p16 + 1) + 1) : Nat) : Int)), .v (.slice ad n cap)]⟩ :: [⟨b3, 32, 12, [_, _, _, _, _, _, _, _, _, _, _, _]⟩, ⟨b2, 32, 12, [_, _, _, _, _, _, _, _, _, _, _, _]⟩]) (List.Perm.refl _) ?_
  have hR18 : R = (exprP l ((p16 + 1) + 1)).bind (fun e p ops => (whereP l p ops).bind (fun w p ops => .ok { st0 with kind := 5, table := t, set := c, to := e, wher := w } p ops)) := hR17.trans (by rw [mark_yes hm18]; rfl)
  refine on_ [(0, _), (2, _), (3, _)] [⟨br, 70, 3, [_, _, _]⟩, ⟨b3, 32, 12, [_, _, _, _, _, _, _, _, _, _, _, _]⟩, ⟨b2, 32, 12, [_, _, _, _, _, _, _, _, _, _, _, _]⟩] ?_
  refine sr_ ?_
  refine om_ ?_
  have hs19 := ns_expr (isQ_lt hm18)
  refine OD.callX wp_ rfl rfl rfl call50 (expr_vx hl hm hw hk ht ((p16 + 1) + 1) (isQ_lt hm18) _ rfl hs19 ad n cap) ⟨ot, trivial⟩ (List.Perm.refl _) (fun ch hch => (Or.inr ⟨ch, rfl, by obtain ⟨q, e, h1, h2⟩ := hch; exact ⟨q, e, hR18.trans (by rw [h1]; rfl), h2⟩⟩ : BodyX _ _ _ _ _ _)) ?_
  rintro _ _ ⟨e, p19, o19, ad19, n19, cap19, hr19, ⟨rfl, hv19⟩, hp19, rfl⟩
  refine OD.perm (S' := ⟨br, 70, 3, [.list 3 (l.flatMap cT) l.length, .v (.int .i64 ((p19 : Nat) : Int)), .v (.slice ad19 n19 cap19)]⟩ :: [⟨b3, 32, 12, [_, _, _, _, _, _, _, _, _, _, _, _]⟩, ⟨b2, 32, 12, [_, _, _, _, _, _, _, _, _, _, _, _]⟩]) (List.Perm.refl _) ?_
  have hR19 : R = (whereP l p19 o19).bind (fun w p ops => .ok { st0 with kind := 5, table := t, set := c, to := e, wher := w } p ops) := hR18.trans (by rw [hr19]; rfl)
  refine os_ (fa_ 11) ?_
  refine ot_ 1 [_, _, _, _, _, _, _, _, _, _, _, _] sizeOf30 ?_
  refine on_ [(0, _), (2, _), (3, _)] [⟨br, 70, 3, [_, _, _]⟩, ⟨b3, 32, 12, [_, _, _, _, _, _, _, _, _, _, _, _]⟩, ⟨b2, 32, 12, [_, _, _, _, _, _, _, _, _, _, _, _]⟩] ?_
  refine CD.region ?_
  refine om_ ?_
  have hs20 := (ns_where : whereP l p19 o19 ≠ .stuck)
  refine OD.callX wp_ rfl rfl rfl call51 (where_vx hl hm hw hk ht p19 hp19 o19 _ rfl hs20 ad19 n19 cap19) ⟨ot, trivial⟩ (List.Perm.refl _) (fun ch hch => (Or.inr ⟨ch, rfl, by obtain ⟨q, e, h1, h2⟩ := hch; exact ⟨q, e, hR19.trans (by rw [h1]; rfl), h2⟩⟩ : BodyX _ _ _ _ _ _)) ?_
  rintro _ _ ⟨w, p20, o20, ad20, n20, cap20, hr20, ⟨rfl, hv20⟩, hp20, rfl⟩
  refine OD.perm (S' := ⟨br, 70, 3, [.list 3 (l.flatMap cT) l.length, .v (.int .i64 ((p20 : Nat) : Int)), .v (.slice ad20 n20 cap20)]⟩ :: [⟨b3, 32, 12, [_, _, _, _, _, _, _, _, _, _, _, _]⟩, ⟨b2, 32, 12, [_, _, _, _, _, _, _, _, _, _, _, _]⟩]) (List.Perm.refl _) ?_
  have hR20 : R = .ok { st0 with kind := 5, table := t, set := c, to := e, wher := w } p20 o20 := hR19.trans (by rw [hr20]; rfl)
  refine os_ (fa_ 6) ?_
  refine ot_ 1 [_, _, _, _, _, _, _, _, _, _, _, _] sizeOf30 ?_
  refine on_ [(2, _), (3, _)] [⟨br, 70, 3, [_, _, _]⟩, ⟨b3, 32, 12, [_, _, _, _, _, _, _, _, _, _, _, _]⟩, ⟨b2, 32, 12, [_, _, _, _, _, _, _, _, _, _, _, _]⟩] ?_
  refine CD.seq ?_
  refine CD.cells (k := 1) (cs' := [_, _, _, _, .list 1 [] 0, _, _, _, _, _, _, _]) (S' := [⟨br, 70, 3, [.list 3 (l.flatMap cT) l.length, .v (.int .i64 ((p20 : Nat) : Int)), .v (.slice ad20 n20 cap20)]⟩, _, _]) rfl (by repeat (first | exact trivial | exact ⟨gv_rfl, trivial⟩ | exact ⟨gv_nil, trivial⟩ | refine ⟨gv_rfl, ?_⟩ | refine ⟨gv_nil, ?_⟩)) rfl ?_
  refine CD.region ?_
  refine os_ (lab_ 1 [_, _, _, _, _, _, _, _, _, _, _, _]) ?_
  refine ot_ 2 [_, _, _, _, _, _, _, _, _, _, _, _] sizeOf32 ?_
  refine on_ [(2, _)] [⟨br, 70, 3, [_, _, _]⟩, ⟨b3, 32, 12, [_, _, _, _, _, _, _, _, _, _, _, _]⟩, ⟨b2, 32, 12, [_, _, _, _, _, _, _, _, _, _, _, _]⟩] ?_
  refine CD.ret ?_
  refine Or.inl ?_
  refine ⟨.inr rfl, _, [⟨br, 70, 3, [.list 3 (l.flatMap cT) l.length, .v (.int .i64 ((p20 : Nat) : Int)), .v (.slice ad20 n20 cap20)]⟩], sw_, ret_one results25 (res_cells (k := 2) (ds := [_, _, _, _, _, _, _, _, _, _, _, _]) le_ lk rfl rfl isAgg32 sizeOf32 rfl rfl), ?_⟩
  exact ⟨{ st0 with kind := 5, table := t, set := c, to := e, wher := w }, p20, o20, _, _, _, hR20, ⟨rfl, ⟨Nat.zero_le _, Nat.zero_le _, Nat.zero_le _, hv20, hv19⟩⟩, hp20, rfl⟩
 have hc4' := hc4
 (try simp only [V.cnd, ne_eq] at hc4')
 have e4f : isQ l p 1 ⟨#[85, 80, 68, 65, 84, 69]⟩ = false := hc4
 rw [e4f]
 simp only [Bool.false_eq_true, if_false]
 refine sr_ ?_
 refine om_ ?_
 refine OD.call wp_ rfl rfl rfl call43 (eat_vc l hl p 1 ⟨#[68, 69, 76, 69, 84, 69]⟩ ad n cap br) ⟨ot, opd_const, opd_const, trivial⟩ (List.Perm.refl _) ?_
 rintro _ _ ⟨rfl, rfl⟩
 refine OD.perm (S' := ⟨br, 70, 3, [.list 3 (l.flatMap cT) l.length, .v (.int .i64 (((if isQ l p 1 ⟨#[68, 69, 76, 69, 84, 69]⟩ = true then p + 1 else p) : Nat) : Int)), .v (.slice ad n cap)]⟩ :: [⟨b3, 32, 12, [_, _, _, _, _, _, _, _, _, _, _, _]⟩, ⟨b2, 32, 12, [_, _, _, _, _, _, _, _, _, _, _, _]⟩]) (List.Perm.refl _) ?_
 refine om_ ?_
 refine on_ [(0, _), (2, _), (3, _), (73, _)] [⟨br, 70, 3, [_, _, _]⟩, ⟨b3, 32, 12, [_, _, _, _, _, _, _, _, _, _, _, _]⟩, ⟨b2, 32, 12, [_, _, _, _, _, _, _, _, _, _, _, _]⟩] ?_
 refine CD.cond ot (fun hc5 => ?_) (fun hc5 => ?_)
 ·have hc5' := hc5
  (try simp only [V.cnd, ne_eq] at hc5')
  have e5t : isQ l p 1 ⟨#[68, 69, 76, 69, 84, 69]⟩ = true := hc5
  rw [e5t]
  simp only [if_true]
  have hR21 : R = (mustP l [⟨#[70, 82, 79, 77]⟩] (p + 1) os).bind (fun _ p ops => (nameP l p ops).bind (fun t p ops => (whereP l p ops).bind (fun w p ops => .ok { st0 with kind := 6, table := t, wher := w } p ops))) := hR.trans (by unfold stP; rw [if_neg (F_ e0f), if_neg (F_ e1f), if_neg (F_ e2f), if_neg (F_ e3f), if_neg (F_ e4f), if_pos e5t])
  refine sr_ ?_
  refine om_ ?_
  refine ob_ (numD 0 [_]) [.string ⟨#[]⟩] [_] zeroValue9 runUnderlying29 sizeOf9 (fun b77 => ?_)
  refine og_ 0 77 1 1 ?_
  refine OD.callX wp_ rfl rfl rfl call44 (must_vx l hl [⟨#[70, 82, 79, 77]⟩] (by decide) (p + 1) ad n cap br) ⟨ot, by exact rfl, trivial⟩ (List.Perm.refl _) (fun ch hch => (Or.inr ⟨ch, rfl, by obtain ⟨q, e, h1, h2⟩ := hch; exact ⟨q, e, hR21.trans (by rw [h1]; rfl), h2⟩⟩ : BodyX _ _ _ _ _ _)) ?_
  rintro _ _ ⟨p22, hr22, rfl⟩
  refine OD.perm (S' := ⟨br, 70, 3, [.list 3 (l.flatMap cT) l.length, .v (.int .i64 ((p22 : Nat) : Int)), .v (.slice ad n cap)]⟩ :: [⟨b3, 32, 12, [_, _, _, _, _, _, _, _, _, _, _, _]⟩, ⟨b2, 32, 12, [_, _, _, _, _, _, _, _, _, _, _, _]⟩]) (List.Perm.refl _) ?_
  have hp22 := (must_le (hr22 []) (isQ_lt e5t)).2.1
  have hR22 : R = (nameP l p22 os).bind (fun t p ops => (whereP l p ops).bind (fun w p ops => .ok { st0 with kind := 6, table := t, wher := w } p ops)) := hR21.trans (by rw [hr22]; rfl)
  refine on_ [(0, _), (2, _), (3, _)] [⟨br, 70, 3, [_, _, _]⟩, ⟨b3, 32, 12, [_, _, _, _, _, _, _, _, _, _, _, _]⟩, ⟨b2, 32, 12, [_, _, _, _, _, _, _, _, _, _, _, _]⟩] ?_
  refine sr_ ?_
  refine om_ ?_
  refine OD.callX wp_ rfl rfl rfl call45 (name_vx hm hw l hl ht p22 ad n cap br) ⟨ot, trivial⟩ (List.Perm.refl _) (fun ch hch => (Or.inr ⟨ch, rfl, by obtain ⟨q, e, h1, h2⟩ := hch; exact ⟨q, e, hR22.trans (by rw [h1]; rfl), h2⟩⟩ : BodyX _ _ _ _ _ _)) ?_
  rintro _ _ ⟨t, hr23, rfl, rfl⟩
  refine OD.perm (S' := ⟨br, 70, 3, [.list 3 (l.flatMap cT) l.length, .v (.int .i64 (((p22 + 1) : Nat) : Int)), .v (.slice ad n cap)]⟩ :: [⟨b3, 32, 12, [_, _, _, _, _, _, _, _, _, _, _, _]⟩, ⟨b2, 32, 12, [_, _, _, _, _, _, _, _, _, _, _, _]⟩]) (List.Perm.refl _) ?_
  have hlt23 := (name_le (hr23 [])).2.2
  have hR23 : R = (whereP l (p22 + 1) os).bind (fun w p ops => .ok { st0 with kind := 6, table := t, wher := w } p ops) := hR22.trans (by rw [hr23]; rfl)
  refine os_ (fa_ 0) ?_
  refine ot_ 1 [_, _, _, _, _, _, _, _, _, _, _, _] sizeOf3 ?_
  refine os_ (fa_ 1) ?_
  refine ot_ 1 [_, _, _, _, _, _, _, _, _, _, _, _] sizeOf9 ?_
  refine on_ [(0, _), (2, _), (3, _)] [⟨br, 70, 3, [_, _, _]⟩, ⟨b3, 32, 12, [_, _, _, _, _, _, _, _, _, _, _, _]⟩, ⟨b2, 32, 12, [_, _, _, _, _, _, _, _, _, _, _, _]⟩] ?_
  refine CD.region ?_
  refine om_ ?_
  have hs24 := (ns_where : whereP l (p22 + 1) os ≠ .stuck)
  refine OD.callX wp_ rfl rfl rfl call51 (where_vx hl hm hw hk ht (p22 + 1) hlt23 os _ rfl hs24 ad n cap) ⟨ot, trivial⟩ (List.Perm.refl _) (fun ch hch => (Or.inr ⟨ch, rfl, by obtain ⟨q, e, h1, h2⟩ := hch; exact ⟨q, e, hR23.trans (by rw [h1]; rfl), h2⟩⟩ : BodyX _ _ _ _ _ _)) ?_
  rintro _ _ ⟨w, p24, o24, ad24, n24, cap24, hr24, ⟨rfl, hv24⟩, hp24, rfl⟩
  refine OD.perm (S' := ⟨br, 70, 3, [.list 3 (l.flatMap cT) l.length, .v (.int .i64 ((p24 : Nat) : Int)), .v (.slice ad24 n24 cap24)]⟩ :: [⟨b3, 32, 12, [_, _, _, _, _, _, _, _, _, _, _, _]⟩, ⟨b2, 32, 12, [_, _, _, _, _, _, _, _, _, _, _, _]⟩]) (List.Perm.refl _) ?_
  have hR24 : R = .ok { st0 with kind := 6, table := t, wher := w } p24 o24 := hR23.trans (by rw [hr24]; rfl)
  refine os_ (fa_ 6) ?_
  refine ot_ 1 [_, _, _, _, _, _, _, _, _, _, _, _] sizeOf30 ?_
  refine on_ [(2, _), (3, _)] [⟨br, 70, 3, [_, _, _]⟩, ⟨b3, 32, 12, [_, _, _, _, _, _, _, _, _, _, _, _]⟩, ⟨b2, 32, 12, [_, _, _, _, _, _, _, _, _, _, _, _]⟩] ?_
  refine CD.seq ?_
  refine CD.cells (k := 1) (cs' := [_, _, _, _, .list 1 [] 0, _, _, _, _, _, _, _]) (S' := [⟨br, 70, 3, [.list 3 (l.flatMap cT) l.length, .v (.int .i64 ((p24 : Nat) : Int)), .v (.slice ad24 n24 cap24)]⟩, _, _]) rfl (by repeat (first | exact trivial | exact ⟨gv_rfl, trivial⟩ | exact ⟨gv_nil, trivial⟩ | refine ⟨gv_rfl, ?_⟩ | refine ⟨gv_nil, ?_⟩)) rfl ?_
  refine CD.region ?_
  refine os_ (lab_ 1 [_, _, _, _, _, _, _, _, _, _, _, _]) ?_
  refine ot_ 2 [_, _, _, _, _, _, _, _, _, _, _, _] sizeOf32 ?_
  refine on_ [(2, _)] [⟨br, 70, 3, [_, _, _]⟩, ⟨b3, 32, 12, [_, _, _, _, _, _, _, _, _, _, _, _]⟩, ⟨b2, 32, 12, [_, _, _, _, _, _, _, _, _, _, _, _]⟩] ?_
  refine CD.ret ?_
  refine Or.inl ?_
  refine ⟨.inr rfl, _, [⟨br, 70, 3, [.list 3 (l.flatMap cT) l.length, .v (.int .i64 ((p24 : Nat) : Int)), .v (.slice ad24 n24 cap24)]⟩], sw_, ret_one results25 (res_cells (k := 2) (ds := [_, _, _, _, _, _, _, _, _, _, _, _]) le_ lk rfl rfl isAgg32 sizeOf32 rfl rfl), ?_⟩
  exact ⟨{ st0 with kind := 6, table := t, wher := w }, p24, o24, _, _, _, hR24, ⟨rfl, ⟨Nat.zero_le _, Nat.zero_le _, Nat.zero_le _, hv24, Nat.zero_le _⟩⟩, hp24, rfl⟩
 have hc5' := hc5
 (try simp only [V.cnd, ne_eq] at hc5')
 have e5f : isQ l p 1 ⟨#[68, 69, 76, 69, 84, 69]⟩ = false := hc5
 rw [e5f]
 simp only [Bool.false_eq_true, if_false]
 refine sr_ ?_
 refine om_ ?_
 refine OD.call wp_ rfl rfl rfl call43 (eat_vc l hl p 1 ⟨#[66, 69, 71, 73, 78]⟩ ad n cap br) ⟨ot, opd_const, opd_const, trivial⟩ (List.Perm.refl _) ?_
 rintro _ _ ⟨rfl, rfl⟩
 refine OD.perm (S' := ⟨br, 70, 3, [.list 3 (l.flatMap cT) l.length, .v (.int .i64 (((if isQ l p 1 ⟨#[66, 69, 71, 73, 78]⟩ = true then p + 1 else p) : Nat) : Int)), .v (.slice ad n cap)]⟩ :: [⟨b3, 32, 12, [_, _, _, _, _, _, _, _, _, _, _, _]⟩, ⟨b2, 32, 12, [_, _, _, _, _, _, _, _, _, _, _, _]⟩]) (List.Perm.refl _) ?_
 refine om_ ?_
 refine on_ [(0, _), (2, _), (3, _), (86, _)] [⟨br, 70, 3, [_, _, _]⟩, ⟨b3, 32, 12, [_, _, _, _, _, _, _, _, _, _, _, _]⟩, ⟨b2, 32, 12, [_, _, _, _, _, _, _, _, _, _, _, _]⟩] ?_
 refine CD.cond ot (fun hc6 => ?_) (fun hc6 => ?_)
 ·have hc6' := hc6
  (try simp only [V.cnd, ne_eq] at hc6')
  have e6t : isQ l p 1 ⟨#[66, 69, 71, 73, 78]⟩ = true := hc6
  rw [e6t]
  simp only [if_true]
  have hR25 : R = .ok { st0 with kind := 7 } (p + 1) os := hR.trans (by unfold stP; rw [if_neg (F_ e0f), if_neg (F_ e1f), if_neg (F_ e2f), if_neg (F_ e3f), if_neg (F_ e4f), if_neg (F_ e5f), if_pos e6t])
  refine CD.region ?_
  refine os_ (fa_ 0) ?_
  refine ot_ 1 [_, _, _, _, _, _, _, _, _, _, _, _] sizeOf3 ?_
  refine on_ [(2, _), (3, _)] [⟨br, 70, 3, [_, _, _]⟩, ⟨b3, 32, 12, [_, _, _, _, _, _, _, _, _, _, _, _]⟩, ⟨b2, 32, 12, [_, _, _, _, _, _, _, _, _, _, _, _]⟩] ?_
  refine CD.seq ?_
  refine CD.cells (k := 1) (cs' := [_, _, _, _, .list 1 [] 0, _, _, _, _, _, _, _]) (S' := [⟨br, 70, 3, [.list 3 (l.flatMap cT) l.length, .v (.int .i64 (((p + 1) : Nat) : Int)), .v (.slice ad n cap)]⟩, _, _]) rfl (by repeat (first | exact trivial | exact ⟨gv_rfl, trivial⟩ | exact ⟨gv_nil, trivial⟩ | refine ⟨gv_rfl, ?_⟩ | refine ⟨gv_nil, ?_⟩)) rfl ?_
  refine CD.region ?_
  refine os_ (lab_ 1 [_, _, _, _, _, _, _, _, _, _, _, _]) ?_
  refine ot_ 2 [_, _, _, _, _, _, _, _, _, _, _, _] sizeOf32 ?_
  refine on_ [(2, _)] [⟨br, 70, 3, [_, _, _]⟩, ⟨b3, 32, 12, [_, _, _, _, _, _, _, _, _, _, _, _]⟩, ⟨b2, 32, 12, [_, _, _, _, _, _, _, _, _, _, _, _]⟩] ?_
  refine CD.ret ?_
  refine Or.inl ?_
  refine ⟨.inr rfl, _, [⟨br, 70, 3, [.list 3 (l.flatMap cT) l.length, .v (.int .i64 (((p + 1) : Nat) : Int)), .v (.slice ad n cap)]⟩], sw_, ret_one results25 (res_cells (k := 2) (ds := [_, _, _, _, _, _, _, _, _, _, _, _]) le_ lk rfl rfl isAgg32 sizeOf32 rfl rfl), ?_⟩
  exact ⟨{ st0 with kind := 7 }, (p + 1), os, _, _, _, hR25, ⟨rfl, ⟨Nat.zero_le _, Nat.zero_le _, Nat.zero_le _, Nat.zero_le _, Nat.zero_le _⟩⟩, (isQ_lt e6t), rfl⟩
 have hc6' := hc6
 (try simp only [V.cnd, ne_eq] at hc6')
 have e6f : isQ l p 1 ⟨#[66, 69, 71, 73, 78]⟩ = false := hc6
 rw [e6f]
 simp only [Bool.false_eq_true, if_false]
 refine sr_ ?_
 refine om_ ?_
 refine OD.call wp_ rfl rfl rfl call43 (eat_vc l hl p 1 ⟨#[67, 79, 77, 77, 73, 84]⟩ ad n cap br) ⟨ot, opd_const, opd_const, trivial⟩ (List.Perm.refl _) ?_
 rintro _ _ ⟨rfl, rfl⟩
 refine OD.perm (S' := ⟨br, 70, 3, [.list 3 (l.flatMap cT) l.length, .v (.int .i64 (((if isQ l p 1 ⟨#[67, 79, 77, 77, 73, 84]⟩ = true then p + 1 else p) : Nat) : Int)), .v (.slice ad n cap)]⟩ :: [⟨b3, 32, 12, [_, _, _, _, _, _, _, _, _, _, _, _]⟩, ⟨b2, 32, 12, [_, _, _, _, _, _, _, _, _, _, _, _]⟩]) (List.Perm.refl _) ?_
 refine om_ ?_
 refine on_ [(0, _), (2, _), (3, _), (90, _)] [⟨br, 70, 3, [_, _, _]⟩, ⟨b3, 32, 12, [_, _, _, _, _, _, _, _, _, _, _, _]⟩, ⟨b2, 32, 12, [_, _, _, _, _, _, _, _, _, _, _, _]⟩] ?_
 refine CD.cond ot (fun hc7 => ?_) (fun hc7 => ?_)
 ·have hc7' := hc7
  (try simp only [V.cnd, ne_eq] at hc7')
  have e7t : isQ l p 1 ⟨#[67, 79, 77, 77, 73, 84]⟩ = true := hc7
  rw [e7t]
  simp only [if_true]
  have hR26 : R = .ok { st0 with kind := 8 } (p + 1) os := hR.trans (by unfold stP; rw [if_neg (F_ e0f), if_neg (F_ e1f), if_neg (F_ e2f), if_neg (F_ e3f), if_neg (F_ e4f), if_neg (F_ e5f), if_neg (F_ e6f), if_pos e7t])
  refine CD.region ?_
  refine os_ (fa_ 0) ?_
  refine ot_ 1 [_, _, _, _, _, _, _, _, _, _, _, _] sizeOf3 ?_
  refine on_ [(2, _), (3, _)] [⟨br, 70, 3, [_, _, _]⟩, ⟨b3, 32, 12, [_, _, _, _, _, _, _, _, _, _, _, _]⟩, ⟨b2, 32, 12, [_, _, _, _, _, _, _, _, _, _, _, _]⟩] ?_
  refine CD.seq ?_
  refine CD.cells (k := 1) (cs' := [_, _, _, _, .list 1 [] 0, _, _, _, _, _, _, _]) (S' := [⟨br, 70, 3, [.list 3 (l.flatMap cT) l.length, .v (.int .i64 (((p + 1) : Nat) : Int)), .v (.slice ad n cap)]⟩, _, _]) rfl (by repeat (first | exact trivial | exact ⟨gv_rfl, trivial⟩ | exact ⟨gv_nil, trivial⟩ | refine ⟨gv_rfl, ?_⟩ | refine ⟨gv_nil, ?_⟩)) rfl ?_
  refine CD.region ?_
  refine os_ (lab_ 1 [_, _, _, _, _, _, _, _, _, _, _, _]) ?_
  refine ot_ 2 [_, _, _, _, _, _, _, _, _, _, _, _] sizeOf32 ?_
  refine on_ [(2, _)] [⟨br, 70, 3, [_, _, _]⟩, ⟨b3, 32, 12, [_, _, _, _, _, _, _, _, _, _, _, _]⟩, ⟨b2, 32, 12, [_, _, _, _, _, _, _, _, _, _, _, _]⟩] ?_
  refine CD.ret ?_
  refine Or.inl ?_
  refine ⟨.inr rfl, _, [⟨br, 70, 3, [.list 3 (l.flatMap cT) l.length, .v (.int .i64 (((p + 1) : Nat) : Int)), .v (.slice ad n cap)]⟩], sw_, ret_one results25 (res_cells (k := 2) (ds := [_, _, _, _, _, _, _, _, _, _, _, _]) le_ lk rfl rfl isAgg32 sizeOf32 rfl rfl), ?_⟩
  exact ⟨{ st0 with kind := 8 }, (p + 1), os, _, _, _, hR26, ⟨rfl, ⟨Nat.zero_le _, Nat.zero_le _, Nat.zero_le _, Nat.zero_le _, Nat.zero_le _⟩⟩, (isQ_lt e7t), rfl⟩
 have hc7' := hc7
 (try simp only [V.cnd, ne_eq] at hc7')
 have e7f : isQ l p 1 ⟨#[67, 79, 77, 77, 73, 84]⟩ = false := hc7
 rw [e7f]
 simp only [Bool.false_eq_true, if_false]
 refine sr_ ?_
 refine om_ ?_
 refine OD.call wp_ rfl rfl rfl call43 (eat_vc l hl p 1 ⟨#[82, 79, 76, 76, 66, 65, 67, 75]⟩ ad n cap br) ⟨ot, opd_const, opd_const, trivial⟩ (List.Perm.refl _) ?_
 rintro _ _ ⟨rfl, rfl⟩
 refine OD.perm (S' := ⟨br, 70, 3, [.list 3 (l.flatMap cT) l.length, .v (.int .i64 (((if isQ l p 1 ⟨#[82, 79, 76, 76, 66, 65, 67, 75]⟩ = true then p + 1 else p) : Nat) : Int)), .v (.slice ad n cap)]⟩ :: [⟨b3, 32, 12, [_, _, _, _, _, _, _, _, _, _, _, _]⟩, ⟨b2, 32, 12, [_, _, _, _, _, _, _, _, _, _, _, _]⟩]) (List.Perm.refl _) ?_
 refine om_ ?_
 refine on_ [(0, _), (2, _), (3, _), (94, _)] [⟨br, 70, 3, [_, _, _]⟩, ⟨b3, 32, 12, [_, _, _, _, _, _, _, _, _, _, _, _]⟩, ⟨b2, 32, 12, [_, _, _, _, _, _, _, _, _, _, _, _]⟩] ?_
 refine CD.cond ot (fun hc8 => ?_) (fun hc8 => ?_)
 ·have hc8' := hc8
  (try simp only [V.cnd, ne_eq] at hc8')
  have e8t : isQ l p 1 ⟨#[82, 79, 76, 76, 66, 65, 67, 75]⟩ = true := hc8
  rw [e8t]
  simp only [if_true]
  have hR27 : R = .ok { st0 with kind := 9 } (p + 1) os := hR.trans (by unfold stP; rw [if_neg (F_ e0f), if_neg (F_ e1f), if_neg (F_ e2f), if_neg (F_ e3f), if_neg (F_ e4f), if_neg (F_ e5f), if_neg (F_ e6f), if_neg (F_ e7f), if_pos e8t])
  refine CD.region ?_
  refine os_ (fa_ 0) ?_
  refine ot_ 1 [_, _, _, _, _, _, _, _, _, _, _, _] sizeOf3 ?_
  refine on_ [(2, _), (3, _)] [⟨br, 70, 3, [_, _, _]⟩, ⟨b3, 32, 12, [_, _, _, _, _, _, _, _, _, _, _, _]⟩, ⟨b2, 32, 12, [_, _, _, _, _, _, _, _, _, _, _, _]⟩] ?_
  refine CD.seq ?_
  refine CD.cells (k := 1) (cs' := [_, _, _, _, .list 1 [] 0, _, _, _, _, _, _, _]) (S' := [⟨br, 70, 3, [.list 3 (l.flatMap cT) l.length, .v (.int .i64 (((p + 1) : Nat) : Int)), .v (.slice ad n cap)]⟩, _, _]) rfl (by repeat (first | exact trivial | exact ⟨gv_rfl, trivial⟩ | exact ⟨gv_nil, trivial⟩ | refine ⟨gv_rfl, ?_⟩ | refine ⟨gv_nil, ?_⟩)) rfl ?_
  refine CD.region ?_
  refine os_ (lab_ 1 [_, _, _, _, _, _, _, _, _, _, _, _]) ?_
  refine ot_ 2 [_, _, _, _, _, _, _, _, _, _, _, _] sizeOf32 ?_
  refine on_ [(2, _)] [⟨br, 70, 3, [_, _, _]⟩, ⟨b3, 32, 12, [_, _, _, _, _, _, _, _, _, _, _, _]⟩, ⟨b2, 32, 12, [_, _, _, _, _, _, _, _, _, _, _, _]⟩] ?_
  refine CD.ret ?_
  refine Or.inl ?_
  refine ⟨.inr rfl, _, [⟨br, 70, 3, [.list 3 (l.flatMap cT) l.length, .v (.int .i64 (((p + 1) : Nat) : Int)), .v (.slice ad n cap)]⟩], sw_, ret_one results25 (res_cells (k := 2) (ds := [_, _, _, _, _, _, _, _, _, _, _, _]) le_ lk rfl rfl isAgg32 sizeOf32 rfl rfl), ?_⟩
  exact ⟨{ st0 with kind := 9 }, (p + 1), os, _, _, _, hR27, ⟨rfl, ⟨Nat.zero_le _, Nat.zero_le _, Nat.zero_le _, Nat.zero_le _, Nat.zero_le _⟩⟩, (isQ_lt e8t), rfl⟩
 have hc8' := hc8
 (try simp only [V.cnd, ne_eq] at hc8')
 have e8f : isQ l p 1 ⟨#[82, 79, 76, 76, 66, 65, 67, 75]⟩ = false := hc8
 rw [e8f]
 simp only [Bool.false_eq_true, if_false]
 have hR28 : R = gv l p 6 := hR.trans (by unfold stP; rw [if_neg (F_ e0f), if_neg (F_ e1f), if_neg (F_ e2f), if_neg (F_ e3f), if_neg (F_ e4f), if_neg (F_ e5f), if_neg (F_ e6f), if_neg (F_ e7f), if_neg (F_ e8f)])
 refine CD.region ?_
 refine om_ ?_
 exact OD.callX wp_ rfl rfl rfl call26 (give_vx l hl p 6 ad n cap br) ⟨ot, opd_const, trivial⟩ (List.Perm.refl _) (fun ch hch => (Or.inr ⟨ch, rfl, ⟨_, _, hR28, hch⟩⟩ : BodyX _ _ _ _ _ _)) (fun r S' h => h.elim)

end Go.Proofs.YtjgekbmahhhokaaDoor.Pa
