/-
  What the proof of TreeBad leans on, part 1 of 5: walks of the program's functions at the level of values, and plain facts of what they compute.
-/
import Derived.Lib.Bytealg
import Derived.WalkKit
import Derived.Deep.MidRow
import Derived.Deep.AppendLies
import Derived.OrdersHeld
import Derived.IntWalk
import Derived.Laws.Cover3
import Derived.ChangeKeysEq
import Derived.ProofKit
import Derived.OpenShut
import Derived.Lib.LaidTab
import Derived.Below
import Derived.Deep.Slices
import Derived.ArgAppend
import Derived.Lib.AppendStr
import Derived.Lib.BytesEntry
import Derived.MapKept
import Derived.RangeFuncLeaves
import Derived.RangeFuncOwn
import Derived.OrdersIn
import Derived.TacticsIn
import Derived.Laws.IdiomCopy
import Derived.Lib.Overlaps
import Derived.Lib.AppendZerosOnto
import Derived.Test.YthnobhekodiciaaRows
import Derived.Test.YthnobhekodiciaaProg
namespace Go.Proofs.Ythnobhekodiciaa.Tr
open Go.Lib (compareBytes)
set_option linter.unusedVariables false
set_option linter.unusedSimpArgs false

/-! ### The order of keys -/
abbrev K := List UInt8
theorem cbb (a b : UInt8) (x y : K) : compareBytes (a :: x) (b :: y) = if a < b then -1 else if b < a then 1 else compareBytes x y := by rw [compareBytes]
theorem u8 {a b : UInt8} : a < b ↔ a.toNat < b.toNat := UInt8.lt_iff_toNat_lt
theorem cb3 : ∀ (x y : K), (compareBytes x y = -1 ∧ compareBytes y x = 1) ∨ (compareBytes x y = 0 ∧ x = y) ∨ (compareBytes x y = 1 ∧ compareBytes y x = -1)
 | [], [] => .inr (.inl ⟨rfl, rfl⟩)
 | [], _ :: _ => .inl ⟨rfl, rfl⟩
 | _ :: _, [] => .inr (.inr ⟨rfl, rfl⟩)
 | a :: x, b :: y => by
  rw [cbb, cbb]
  by_cases h1 : a < b
  ·have h2 : ¬ b < a := by rw [u8] at h1 ⊢; omega
   rw [if_pos h1, if_neg h2, if_pos h1]; exact .inl ⟨rfl, rfl⟩
  ·by_cases h2 : b < a
   ·rw [if_neg h1, if_pos h2, if_pos h2]; exact .inr (.inr ⟨rfl, rfl⟩)
   ·rw [if_neg h1, if_neg h2, if_neg h2, if_neg h1]
    have hab : a = b := by
     apply UInt8.toNat_inj.1
     rw [u8] at h1 h2; omega
    subst hab
    rcases cb3 x y with h | ⟨h, e⟩ | h
    ·exact .inl h
    ·exact .inr (.inl ⟨h, by rw [e]⟩)
    ·exact .inr (.inr h)
theorem cb_tr : ∀ (x y z : K), compareBytes x y = -1 → compareBytes y z = -1 → compareBytes x z = -1
 | [], [], _, h, _ => by cases h
 | _ :: _, [], _, h, _ => by cases h
 | _, _ :: _, [], _, h => by cases h
 | [], _ :: _, _ :: _, _, _ => rfl
 | a :: x, b :: y, c :: z, h1, h2 => by
  rw [cbb] at h1 h2 ⊢
  by_cases p : a < b
  ·by_cases q : b < c
   ·rw [if_pos (by rw [u8] at p q ⊢; omega)]
   ·rw [if_neg q] at h2
    by_cases r : c < b
    ·rw [if_pos r] at h2; cases h2
    ·rw [if_pos (by rw [u8] at p q r ⊢; omega)]
  ·rw [if_neg p] at h1
   by_cases p' : b < a
   ·rw [if_pos p'] at h1; cases h1
   ·rw [if_neg p'] at h1
    by_cases q : b < c
    ·rw [if_pos (by rw [u8] at p p' q ⊢; omega)]
    ·rw [if_neg q] at h2
     by_cases r : c < b
     ·rw [if_pos r] at h2; cases h2
     ·rw [if_neg r] at h2
      rw [if_neg (by rw [u8] at p p' q r ⊢; omega), if_neg (by rw [u8] at p p' q r ⊢; omega)]
      exact cb_tr x y z h1 h2
/-- One key stands ahead of another. -/
def klt (a b : K) : Prop := compareBytes a b < 0
instance (a b : K) : Decidable (klt a b) := inferInstanceAs (Decidable (_ < _))
theorem klt_iff {a b : K} : klt a b ↔ compareBytes a b = -1 := by
 unfold klt
 rcases cb3 a b with ⟨h, _⟩ | ⟨h, _⟩ | ⟨h, _⟩ <;> rw [h] <;> decide
theorem cb_nil (a : K) : ¬ klt a [] := by
 unfold klt
 cases a with
 | nil => decide
 | cons x y => show ¬ (1 : Int) < 0; decide
theorem klt_irr (a : K) : ¬ klt a a := fun h => by
 rcases cb3 a a with ⟨h1, h2⟩ | ⟨h1, _⟩ | ⟨h1, h2⟩
 ·omega
 ·unfold klt at h; omega
 ·omega
theorem klt_tr {a b c : K} (h1 : klt a b) (h2 : klt b c) : klt a c := klt_iff.2 (cb_tr a b c (klt_iff.1 h1) (klt_iff.1 h2))
theorem klt_as {a b : K} (h : klt a b) : ¬ klt b a := fun h' => klt_irr a (klt_tr h h')
theorem klt_or (a b : K) : klt a b ∨ a = b ∨ klt b a := by
 unfold klt
 rcases cb3 a b with ⟨h, _⟩ | ⟨_, h⟩ | ⟨_, h⟩
 ·exact .inl (by omega)
 ·exact .inr (.inl h)
 ·exact .inr (.inr (by omega))
theorem cb_eq {a b : K} : compareBytes a b = 0 ↔ a = b := ⟨fun h => by
 rcases cb3 a b with ⟨h1, _⟩ | ⟨_, h1⟩ | ⟨h1, _⟩
 ·omega
 ·exact h1
 ·omega, fun h => by
 subst h
 rcases cb3 a a with ⟨h1, h2⟩ | ⟨h1, _⟩ | ⟨h1, h2⟩
 ·omega
 ·exact h1
 ·omega⟩
/-- not below, and below: so it is less -/
theorem lt_of_le_lt {a b c : K} (h1 : ¬ klt b a) (h2 : klt b c) : klt a c := by
  rcases klt_or a b with h | rfl | h
  · exact klt_tr h h2
  · exact h2
  · exact absurd h h1
theorem lt_of_lt_le {a b c : K} (h1 : klt a b) (h2 : ¬ klt c b) : klt a c := by
 rcases klt_or b c with h | rfl | h
 ·exact klt_tr h1 h
 ·exact h1
 ·exact absurd h h2
theorem le_tr {a b c : K} (h1 : ¬ klt b a) (h2 : ¬ klt c b) : ¬ klt c a := fun h => by
 rcases klt_or a b with h' | rfl | h'
 ·exact h2 (klt_tr h h')
 ·exact h2 h
 ·exact h1 h'

theorem fm_congr {α β : Type} {l : List α} {f g : α → List β} (h : ∀ a ∈ l, f a = g a) : l.flatMap f = l.flatMap g := by
 induction l with
 | nil => rfl
 | cons a r ih => rw [List.flatMap_cons, List.flatMap_cons, h a List.mem_cons_self, ih fun x hx => h x (List.mem_cons_of_mem _ hx)]

/-! ### Pages and trees -/
structure PgL where
 leaf : Bool
 keys : List K
 kids : List Int
 high : K
 next : Int
def noPg : PgL := ⟨false, [], [], [], 0⟩
structure TreeL where
 pages : List PgL
 root : Int
def TreeL.pg (t : TreeL) (i : Int) : PgL := t.pages.getD i.toNat noPg
def newT : TreeL := ⟨[⟨true, [], [], [], -1⟩], 0⟩
/-- A page may be, by itself. -/
structure PageOk (p : PgL) (many : Int) : Prop where
  few : p.keys.length ≤ 4
  hlen : p.high.length ≤ 100
  nlow : -1 ≤ p.next
  nhigh : p.next < many
  nend : p.next < 0 ↔ p.high = []
  leaf : p.leaf = true → p.kids.length = p.keys.length
  node : p.leaf = false → p.kids.length = p.keys.length + 1 ∧ p.keys ≠ []
  klen : ∀ k ∈ p.keys, 1 ≤ k.length ∧ k.length ≤ 100
  khigh : p.high ≠ [] → ∀ k ∈ p.keys, klt k p.high
  rise : p.keys.Pairwise klt
  kid : ∀ n ∈ p.kids, 0 ≤ n
  kidn : p.leaf = false → ∀ n ∈ p.kids, n < many
theorem PageOk.more {p : PgL} {m m' : Int} (h : PageOk p m) (hm : m ≤ m') : PageOk p m' :=
 ⟨h.few, h.hlen, h.nlow, by have := h.nhigh; omega, h.nend, h.leaf, h.node, h.klen, h.khigh, h.rise, h.kid, fun hl n hn => by have := h.kidn hl n hn; omega⟩
/-- The bounds of what is below a kid. -/
def loK (low : K) (p : PgL) (j : Nat) : K := if j = 0 then low else p.keys.getD (j - 1) []
def hiK (p : PgL) (j : Nat) : K := p.keys.getD j p.high
/-- What stands below a page, so high above the leaves, within bounds. -/
def OkT (t : TreeL) : Nat → Int → K → K → Prop
  | 0, i, low, high => (0 ≤ i ∧ i < t.pages.length) ∧ (t.pg i).leaf = true ∧ (t.pg i).high = high ∧ ∀ k ∈ (t.pg i).keys, ¬ klt k low
  | h + 1, i, low, high => (0 ≤ i ∧ i < t.pages.length) ∧ (t.pg i).leaf = false ∧ (t.pg i).high = high ∧ (∀ k ∈ (t.pg i).keys, ¬ klt k low) ∧
    ∀ j (hj : j < (t.pg i).kids.length), OkT t h (t.pg i).kids[j] (loK low (t.pg i) j) (hiK (t.pg i) j)
/-- The pages from one down. -/
def ids (t : TreeL) : Nat → Int → List Int
  | 0, i => [i]
  | h + 1, i => i :: (t.pg i).kids.flatMap (ids t h)
/-- The pages that stand so deep below one, from left to right. -/
def lvl (t : TreeL) : Nat → Int → List Int
  | 0, i => [i]
  | d + 1, i => (t.pg i).kids.flatMap (lvl t d)
/-- The entries below a page. -/
def pageE (p : PgL) : List (K × Int) := p.keys.zip p.kids
def ents (t : TreeL) : Nat → Int → List (K × Int)
 | 0, i => pageE (t.pg i)
 | h + 1, i => (t.pg i).kids.flatMap (ents t h)
/-- Pages that lead to one another; e: where the last one leads. -/
def Seg (t : TreeL) : List Int → Int → Prop
  | [], _ => True
  | [i], e => (t.pg i).next = e
  | i :: j :: r, e => (t.pg i).next = j ∧ Seg t (j :: r) e
structure Valid (t : TreeL) (h : Nat) : Prop where
 pos : 1 ≤ t.pages.length
 most : t.pages.length ≤ 4000
 page : ∀ p ∈ t.pages, PageOk p t.pages.length
 ok : OkT t h t.root [] []
 once : (ids t h t.root).Nodup
 all : (ids t h t.root).length = t.pages.length
 seg : ∀ d, d ≤ h → Seg t (lvl t d t.root) (-1)
theorem OkT.idx {t : TreeL} : ∀ {h : Nat} {i : Int} {low high : K}, OkT t h i low high → 0 ≤ i ∧ i < t.pages.length
 | 0, _, _, _, h => h.1
 | _ + 1, _, _, _, h => h.1
theorem OkT.high {t : TreeL} : ∀ {h : Nat} {i : Int} {low high : K}, OkT t h i low high → (t.pg i).high = high
 | 0, _, _, _, h => h.2.2.1
 | _ + 1, _, _, _, h => h.2.2.1
theorem OkT.low {t : TreeL} : ∀ {h : Nat} {i : Int} {low high : K}, OkT t h i low high → ∀ k ∈ (t.pg i).keys, ¬ klt k low
 | 0, _, _, _, h => h.2.2.2
 | _ + 1, _, _, _, h => h.2.2.2.1
theorem pg_at {t : TreeL} {i : Int} (h : 0 ≤ i ∧ i < t.pages.length) : t.pg i = t.pages[i.toNat]'(by omega) := by
 unfold TreeL.pg; rw [List.getD_eq_getElem?_getD, List.getElem?_eq_getElem (by omega)]; rfl
theorem pg_mem {t : TreeL} {i : Int} (h : 0 ≤ i ∧ i < t.pages.length) : t.pg i ∈ t.pages := by rw [pg_at h]; exact List.getElem_mem _
theorem ids_head {t : TreeL} (h : Nat) (i : Int) : i ∈ ids t h i := by cases h <;> simp [ids]
/-- Trees that agree on the pages below one look alike from it. -/
theorem frame {t u : TreeL} : ∀ (h : Nat) (i : Int), (∀ j ∈ ids t h i, u.pg j = t.pg j) → ids u h i = ids t h i ∧ ents u h i = ents t h i ∧ ∀ d, d ≤ h → lvl u d i = lvl t d i
  | 0, i, hp => by
    have h0 := hp i (ids_head 0 i)
    refine ⟨rfl, by unfold ents; rw [h0], fun d hd => ?_⟩
    obtain rfl : d = 0 := by omega
    rfl
  | h + 1, i, hp => by
    have h0 := hp i (ids_head _ i)
    have hs : ∀ j ∈ (t.pg i).kids, ids u h j = ids t h j ∧ ents u h j = ents t h j ∧ ∀ d, d ≤ h → lvl u d j = lvl t d j := fun j hj => frame h j fun x hx => hp x (by
      rw [ids]; exact List.mem_cons_of_mem _ (List.mem_flatMap.2 ⟨j, hj, hx⟩))
    refine ⟨?_, ?_, fun d hd => ?_⟩
    · rw [ids, ids, h0]; congr 1; exact fm_congr (fun j hj => (hs j hj).1)
    · rw [ents, ents, h0]; exact fm_congr (fun j hj => (hs j hj).2.1)
    · cases d with
      | zero => rfl
      | succ d => rw [lvl, lvl, h0]; exact fm_congr (fun j hj => (hs j hj).2.2 d (by omega))
theorem OkT.frame {t u : TreeL} (hl : t.pages.length ≤ u.pages.length) : ∀ {h : Nat} {i : Int} {low high : K}, OkT t h i low high → (∀ j ∈ ids t h i, u.pg j = t.pg j) → OkT u h i low high
 | 0, i, low, high, ⟨q1, q2, q3, q4⟩, hp => by
  have h0 := hp i (ids_head 0 i)
  exact ⟨⟨q1.1, by omega⟩, by rw [h0]; exact q2, by rw [h0]; exact q3, by rw [h0]; exact q4⟩
 | h + 1, i, low, high, ⟨q1, q2, q3, q4, q5⟩, hp => by
  have h0 := hp i (ids_head _ i)
  refine ⟨⟨q1.1, by omega⟩, by rw [h0]; exact q2, by rw [h0]; exact q3, by rw [h0]; exact q4, ?_⟩
  rw [h0]
  exact fun j hj => OkT.frame hl (q5 j hj) fun x hx => hp x (by rw [ids]; exact List.mem_cons_of_mem _ (List.mem_flatMap.2 ⟨_, List.getElem_mem hj, hx⟩))
theorem OkT.ids {t : TreeL} : ∀ {h : Nat} {i : Int} {low high : K}, OkT t h i low high → ∀ j ∈ Tr.ids t h i, 0 ≤ j ∧ j < t.pages.length
 | 0, i, low, high, q, j, hj => by
  rw [Tr.ids, List.mem_singleton] at hj; subst hj; exact q.1
 | h + 1, i, low, high, ⟨q1, q2, q3, q4, q5⟩, j, hj => by
  rw [Tr.ids] at hj
  rcases List.mem_cons.1 hj with rfl | hj
  ·exact q1
  ·obtain ⟨x, hx, hj⟩ := List.mem_flatMap.1 hj
   obtain ⟨n, hn, rfl⟩ := List.mem_iff_getElem.1 hx
   exact OkT.ids (q5 n hn) j hj
end Go.Proofs.Ythnobhekodiciaa.Tr

namespace Go.Proofs.Ythnobhekodiciaa.Tr
open Go.Lib (compareBytes)
set_option linter.unusedVariables false
set_option linter.unusedSimpArgs false

theorem tw_at {α : Type} {p : α → Bool} : ∀ {l : List α} {i : Nat} (h : i < (l.takeWhile p).length), ∃ (h' : i < l.length), p l[i] = true
 | a :: r, i, h => by
  rw [List.takeWhile_cons] at h
  by_cases ha : p a = true
  ·rw [if_pos ha] at h
   cases i with
   | zero => exact ⟨by simp, ha⟩
   | succ i =>
    obtain ⟨h', q⟩ := tw_at (l := r) (i := i) (by simpa using h)
    exact ⟨by simpa using h', by simpa using q⟩
  ·rw [if_neg ha] at h; simp at h
theorem tw_end {α : Type} {p : α → Bool} : ∀ {l : List α} (h : (l.takeWhile p).length < l.length), p l[(l.takeWhile p).length] = false
 | a :: r, h => by
  by_cases ha : p a = true
  ·have e : ((a :: r).takeWhile p).length = (r.takeWhile p).length + 1 := by rw [List.takeWhile_cons, if_pos ha]; rfl
   have h2 : (r.takeWhile p).length < r.length := by rw [e] at h; simpa using h
   have := tw_end (l := r) h2
   simp only [e, List.getElem_cons_succ]; exact this
  ·have e : ((a :: r).takeWhile p).length = 0 := by rw [List.takeWhile_cons, if_neg ha]; rfl
   simp only [e, List.getElem_cons_zero]; simpa using ha
theorem tw_le {α : Type} (p : α → Bool) (l : List α) : (l.takeWhile p).length ≤ l.length := (List.takeWhile_sublist p).length_le
/-- How many keys are below one, or not above it. -/
def downN (keys : List K) (k : K) : Nat := (keys.takeWhile fun x => decide (klt x k)).length
def uptoN (keys : List K) (k : K) : Nat := (keys.takeWhile fun x => decide (¬ klt k x)).length
def placeF (p : PgL) (k : K) : Nat := if p.leaf = true then downN p.keys k else uptoN p.keys k
theorem downN_at {keys : List K} {k : K} {i : Nat} (h : i < downN keys k) : ∃ (h' : i < keys.length), klt keys[i] k := by
 obtain ⟨h', q⟩ := tw_at h; exact ⟨h', by simpa using q⟩
theorem downN_end {keys : List K} {k : K} (h : downN keys k < keys.length) : ¬ klt keys[downN keys k] k := by
 exact of_decide_eq_false (tw_end h)
theorem downN_le (keys : List K) (k : K) : downN keys k ≤ keys.length := tw_le _ _
theorem uptoN_at {keys : List K} {k : K} {i : Nat} (h : i < uptoN keys k) : ∃ (h' : i < keys.length), ¬ klt k keys[i] := by
 obtain ⟨h', q⟩ := tw_at h; exact ⟨h', by simpa using q⟩
theorem uptoN_end {keys : List K} {k : K} (h : uptoN keys k < keys.length) : klt k keys[uptoN keys k] := by
 exact Classical.not_not.1 (of_decide_eq_false (tw_end h))
theorem uptoN_le (keys : List K) (k : K) : uptoN keys k ≤ keys.length := tw_le _ _
/-- A key that rises, at a place. -/
theorem rise_at {keys : List K} (h : keys.Pairwise klt) {i j : Nat} (hij : i < j) (hj : j < keys.length) : klt keys[i] keys[j] := List.pairwise_iff_getElem.1 h i j (by omega) hj hij
theorem hiK_lt {p : PgL} {j : Nat} (h : j < p.keys.length) : hiK p j = p.keys[j] := by unfold hiK; rw [List.getD_eq_getElem?_getD, List.getElem?_eq_getElem h]; rfl
theorem hiK_end {p : PgL} {j : Nat} (h : p.keys.length ≤ j) : hiK p j = p.high := by unfold hiK; rw [List.getD_eq_getElem?_getD, List.getElem?_eq_none h]; rfl
theorem loK_pos {low : K} {p : PgL} {j : Nat} (h : 0 < j) (h' : j - 1 < p.keys.length) : loK low p j = p.keys[j - 1] := by unfold loK; rw [if_neg (by omega), List.getD_eq_getElem?_getD, List.getElem?_eq_getElem h']; rfl
/-- A key is within bounds. -/
def inR (low high k : K) : Prop := ¬ klt k low ∧ (high ≠ [] → klt k high)
theorem inR_all (k : K) : inR [] [] k := ⟨cb_nil k, fun h => absurd rfl h⟩
/-- The kid that a key belongs to. -/
theorem down {p : PgL} {n : Int} (hp : PageOk p n) (hl : p.leaf = false) {low high k : K} (hh : p.high = high) (hk : inR low high k) : placeF p k < p.kids.length ∧ inR (loK low p (placeF p k)) (hiK p (placeF p k)) k := by
  have e : placeF p k = uptoN p.keys k := by unfold placeF; rw [if_neg (by rw [hl]; decide)]
  have hle := uptoN_le p.keys k
  rw [e]
  refine ⟨by rw [(hp.node hl).1]; omega, ?_, ?_⟩
  · rcases Nat.eq_zero_or_pos (uptoN p.keys k) with h0 | h0
    · rw [h0]; exact hk.1
    · obtain ⟨h', q⟩ := uptoN_at (keys := p.keys) (k := k) (i := uptoN p.keys k - 1) (by omega)
      rw [loK_pos h0 h']; exact q
  · intro hne
    by_cases hlt : uptoN p.keys k < p.keys.length
    · rw [hiK_lt hlt]; exact uptoN_end hlt
    · rw [hiK_end (by omega)] at hne ⊢
      rw [hh] at hne ⊢; exact hk.2 hne
/-- The leaf of a key. -/
def leafF (t : TreeL) (k : K) : Nat → Int → Int
  | 0, i => i
  | h + 1, i => leafF t k h ((t.pg i).kids.getD (placeF (t.pg i) k) 0)
def pathF (t : TreeL) (k : K) : Nat → Int → List Int
 | 0, i => [i]
 | h + 1, i => i :: pathF t k h ((t.pg i).kids.getD (placeF (t.pg i) k) 0)
theorem path_last (t : TreeL) (k : K) : ∀ (h : Nat) (i : Int), (pathF t k h i).getLast? = some (leafF t k h i)
 | 0, i => rfl
 | h + 1, i => by
  have := path_last t k h ((t.pg i).kids.getD (placeF (t.pg i) k) 0)
  rw [pathF, leafF, List.getLast?_cons, this]; rfl
theorem ents_lvl (t : TreeL) : ∀ (h : Nat) (i : Int), ents t h i = (lvl t h i).flatMap fun l => pageE (t.pg l)
 | 0, i => by simp [ents, lvl]
 | h + 1, i => by
  rw [ents, lvl, List.flatMap_assoc]
  exact fm_congr fun j _ => ents_lvl t h j
theorem zip_fst {α β : Type} : ∀ {a : List α} {b : List β}, b.length = a.length → (a.zip b).map Prod.fst = a
 | [], _, _ => by simp
 | x :: a, [], h => by simp at h
 | x :: a, y :: b, h => by simp [zip_fst (a := a) (b := b) (by simpa using h)]
theorem mem_page {p : PgL} {x : K × Int} (h : x ∈ pageE p) : x.1 ∈ p.keys := (List.of_mem_zip h).1
theorem getD_kid {p : PgL} {j : Nat} (h : j < p.kids.length) : p.kids.getD j 0 = p.kids[j] := by rw [List.getD_eq_getElem?_getD, List.getElem?_eq_getElem h]; rfl
variable {t : TreeL} {n : Int}
/-- The bounds of a kid lie within those of its page. -/
theorem kid_bounds {p : PgL} (hp : PageOk p n) (hl : p.leaf = false) {low high : K} (hh : p.high = high) (hlow : ∀ k ∈ p.keys, ¬ klt k low) {j : Nat} (hj : j < p.kids.length) {k : K} (hk : inR (loK low p j) (hiK p j) k) : inR low high k := by
  have hn := (hp.node hl).1
  refine ⟨?_, fun hne => ?_⟩
  · rcases Nat.eq_zero_or_pos j with rfl | h0
    · exact hk.1
    · rw [loK_pos h0 (by omega)] at hk
      exact le_tr (hlow _ (List.getElem_mem _)) hk.1
  · by_cases hlt : j < p.keys.length
    · rw [hiK_lt hlt] at hk
      have hm := List.getElem_mem hlt
      have h2 := hk.2 (by intro e; have := (hp.klen _ hm).1; rw [e] at this; simp at this)
      exact klt_tr h2 (by rw [← hh]; exact hp.khigh (by rw [hh]; exact hne) _ hm)
    · rw [hiK_end (by omega), hh] at hk; exact hk.2 hne
/-- What is below an earlier kid stands ahead. -/
theorem kid_order {p : PgL} (hp : PageOk p n) (hl : p.leaf = false) {low : K} {i j : Nat} (hij : i < j) (hj : j < p.kids.length) {a b : K} (ha : inR (loK low p i) (hiK p i) a) (hb : inR (loK low p j) (hiK p j) b) : klt a b := by
  have hn := (hp.node hl).1
  have hik : i < p.keys.length := by omega
  rw [hiK_lt hik] at ha
  have h1 := ha.2 (by intro e; have := (hp.klen _ (List.getElem_mem hik)).1; rw [e] at this; simp at this)
  rw [loK_pos (by omega) (by omega)] at hb
  refine lt_of_lt_le h1 ?_
  refine le_tr ?_ hb.1
  rcases Nat.lt_or_ge i (j - 1) with h | h
  · exact klt_as (rise_at hp.rise h (by omega))
  · have : j - 1 = i := by omega
    simp only [this]; exact klt_irr _
/-- Entries rise, and lie within bounds. -/
theorem ents_ok (hp : ∀ p ∈ t.pages, PageOk p n) : ∀ {h : Nat} {i : Int} {low high : K}, OkT t h i low high → (ents t h i).Pairwise (fun x y => klt x.1 y.1) ∧ ∀ x ∈ ents t h i, inR low high x.1
  | 0, i, low, high, ok => by
    obtain ⟨q1, q2, q3, q4⟩ := ok
    have po := hp _ (pg_mem q1)
    rw [ents]
    refine ⟨?_, fun x hx => ⟨q4 _ (mem_page hx), fun hne => by rw [← q3] at hne ⊢; exact po.khigh hne _ (mem_page hx)⟩⟩
    have h1 : ((pageE (t.pg i)).map Prod.fst).Pairwise klt := by unfold pageE; rw [zip_fst (po.leaf q2)]; exact po.rise
    exact List.pairwise_map.1 h1
  | h + 1, i, low, high, ok => by
    obtain ⟨q1, q2, q3, q4, q5⟩ := ok
    have po := hp _ (pg_mem q1)
    rw [ents]
    have hk : ∀ j (hj : j < (t.pg i).kids.length), (ents t h (t.pg i).kids[j]).Pairwise (fun x y => klt x.1 y.1) ∧ ∀ x ∈ ents t h (t.pg i).kids[j], inR (loK low (t.pg i) j) (hiK (t.pg i) j) x.1 := fun j hj => ents_ok hp (q5 j hj)
    refine ⟨List.pairwise_flatMap.2 ⟨fun a ha => ?_, ?_⟩, fun x hx => ?_⟩
    · obtain ⟨j, hj, rfl⟩ := List.mem_iff_getElem.1 ha; exact (hk j hj).1
    · refine List.pairwise_iff_getElem.2 fun a b ha hb hab x hx y hy => ?_
      exact kid_order po q2 hab hb ((hk a ha).2 x hx) ((hk b hb).2 y hy)
    · obtain ⟨c, hc, hx⟩ := List.mem_flatMap.1 hx
      obtain ⟨j, hj, rfl⟩ := List.mem_iff_getElem.1 hc
      exact kid_bounds po q2 q3 q4 hj ((hk j hj).2 x hx)
/-- The leaves around the one of a key: all ahead of it are below the key, all behind it above. -/
theorem leaf_cut (hp : ∀ p ∈ t.pages, PageOk p n) {k : K} : ∀ {h : Nat} {i : Int} {low high : K}, OkT t h i low high → inR low high k →
    ∃ pre post lo hi, lvl t h i = pre ++ leafF t k h i :: post ∧ (∀ l ∈ pre, ∀ x ∈ pageE (t.pg l), klt x.1 k) ∧ (∀ l ∈ post, ∀ x ∈ pageE (t.pg l), klt k x.1) ∧ OkT t 0 (leafF t k h i) lo hi ∧ inR lo hi k
  | 0, i, low, high, ok, hk => ⟨[], [], low, high, rfl, (fun _ h => by cases h), (fun _ h => by cases h), ok, hk⟩
  | h + 1, i, low, high, ok, hk => by
    obtain ⟨q1, q2, q3, q4, q5⟩ := ok
    have po := hp _ (pg_mem q1)
    obtain ⟨d1, d2⟩ := down po q2 q3 hk
    obtain ⟨pre, post, lo, hi, e, h1, h2, h3, h4⟩ := leaf_cut hp (q5 _ d1) d2
    have hm : ∀ j (hj : j < (t.pg i).kids.length), ∀ l ∈ lvl t h (t.pg i).kids[j], ∀ x ∈ pageE (t.pg l), inR (loK low (t.pg i) j) (hiK (t.pg i) j) x.1 := fun j hj l hl x hx =>
      (ents_ok hp (q5 j hj)).2 x (by rw [ents_lvl]; exact List.mem_flatMap.2 ⟨l, hl, hx⟩)
    refine ⟨((t.pg i).kids.take (placeF (t.pg i) k)).flatMap (lvl t h) ++ pre, post ++ ((t.pg i).kids.drop (placeF (t.pg i) k + 1)).flatMap (lvl t h), lo, hi, ?_, ?_, ?_, ?_, h4⟩
    · rw [lvl]
      conv => lhs; rw [← List.take_append_drop (placeF (t.pg i) k) (t.pg i).kids]
      rw [List.drop_eq_getElem_cons d1, List.flatMap_append, List.flatMap_cons, e, leafF, getD_kid d1]
      simp
    · intro l hl x hx
      rcases List.mem_append.1 hl with hl | hl
      · obtain ⟨c, hc, hl⟩ := List.mem_flatMap.1 hl
        obtain ⟨j, hj, rfl⟩ := List.mem_iff_getElem.1 hc
        rw [List.length_take] at hj
        rw [List.getElem_take] at hl
        exact kid_order po q2 (show j < placeF (t.pg i) k by omega) d1 (hm j (by omega) l hl x hx) d2
      · exact h1 l hl x hx
    · intro l hl x hx
      rcases List.mem_append.1 hl with hl | hl
      · exact h2 l hl x hx
      · obtain ⟨c, hc, hl⟩ := List.mem_flatMap.1 hl
        obtain ⟨j, hj, rfl⟩ := List.mem_iff_getElem.1 hc
        rw [List.length_drop] at hj
        rw [List.getElem_drop] at hl
        exact kid_order po q2 (show placeF (t.pg i) k < placeF (t.pg i) k + 1 + j by omega) (by omega) d2 (hm _ (by omega) l hl x hx)
    · rw [leafF, getD_kid d1]; exact h3
end Go.Proofs.Ythnobhekodiciaa.Tr

namespace Go.Proofs.Ythnobhekodiciaa.Tr
open Go.Lib (compareBytes)
set_option linter.unusedVariables false
set_option linter.unusedSimpArgs false

def insAt {α : Type} (l : List α) (i : Nat) (x : α) : List α := l.take i ++ x :: l.drop i
def TreeL.set (t : TreeL) (i : Int) (p : PgL) : TreeL := { t with pages := t.pages.set i.toNat p }
/-- A page with one key more, and what it leads to. -/
def putP (p : PgL) (up : K) (kid : Int) : PgL :=
  { p with keys := insAt p.keys (placeF p up) up, kids := insAt p.kids (if p.leaf = true then placeF p up else placeF p up + 1) kid }
/-- The key that parts a page that is too full; its lower and its upper half. -/
def upK (p : PgL) : K := p.keys.getD 2 []
def lowP (p : PgL) (n : Int) : PgL := { leaf := p.leaf, keys := p.keys.take 2, kids := p.kids.take (if p.leaf = true then 2 else 3), high := upK p, next := n }
def highP (p : PgL) : PgL := { leaf := p.leaf, keys := p.keys.drop (if p.leaf = true then 2 else 3), kids := p.kids.drop (if p.leaf = true then 2 else 3), high := p.high, next := p.next }
/-- The tree when a page has one key more; what goes up when it was split. -/
def putT (t : TreeL) (i : Int) (up : K) (kid : Int) : TreeL × Option (K × Int) :=
  if (putP (t.pg i) up kid).keys.length ≤ 4 then (t.set i (putP (t.pg i) up kid), none)
  else (⟨(t.pages.set i.toNat (lowP (putP (t.pg i) up kid) t.pages.length)) ++ [highP (putP (t.pg i) up kid)], t.root⟩, some (upK (putP (t.pg i) up kid), t.pages.length))
/-- From the leaf up. -/
def insR (t : TreeL) (k : K) (row : Int) : Nat → Int → TreeL × Option (K × Int)
  | 0, i => putT t i k row
  | h + 1, i => match insR t k row h ((t.pg i).kids.getD (placeF (t.pg i) k) 0) with
    | (t', none) => (t', none)
    | (t', some (up, kid)) => putT t' i up kid
/-- The tree that is left: with a new root, if the old one was split. -/
def rootT (r : TreeL × Option (K × Int)) : TreeL := match r with
  | (t, none) => t
  | (t, some (up, kid)) => ⟨t.pages ++ [⟨false, [up], [t.root, kid], [], -1⟩], t.pages.length⟩

theorem set_len (t : TreeL) (i : Int) (p : PgL) : (t.set i p).pages.length = t.pages.length := by simp [TreeL.set]
theorem set_same {t : TreeL} {i : Int} (h : 0 ≤ i ∧ i < t.pages.length) (p : PgL) : (t.set i p).pg i = p := by
 unfold TreeL.pg TreeL.set; rw [List.getD_eq_getElem?_getD, List.getElem?_set_self (by omega)]; rfl
theorem set_other {t : TreeL} {i j : Int} (hi : 0 ≤ i) (hj : 0 ≤ j) (h : i ≠ j) (p : PgL) : (t.set i p).pg j = t.pg j := by
 unfold TreeL.pg TreeL.set; rw [List.getD_eq_getElem?_getD, List.getD_eq_getElem?_getD, List.getElem?_set_ne (by omega)]
theorem insAt_len {α : Type} (l : List α) {i : Nat} (h : i ≤ l.length) (x : α) : (insAt l i x).length = l.length + 1 := by unfold insAt; simp; omega
theorem mem_insAt {α : Type} {l : List α} {i : Nat} {x y : α} : y ∈ insAt l i x ↔ y = x ∨ y ∈ l := by
 unfold insAt
 conv => rhs; rw [← List.take_append_drop i l]
 simp only [List.mem_append, List.mem_cons]
 constructor
 ·rintro (h | h | h)
  ·exact .inr (.inl h)
  ·exact .inl h
  ·exact .inr (.inr h)
 ·rintro (h | h | h)
  ·exact .inr (.inl h)
  ·exact .inl h
  ·exact .inr (.inr h)
theorem zip_insAt {α β : Type} {a : List α} {b : List β} (h : b.length = a.length) {i : Nat} (hi : i ≤ a.length) (x : α) (y : β) : (insAt a i x).zip (insAt b i y) = insAt (a.zip b) i (x, y) := by
 unfold insAt
 rw [List.zip_append (by simp [h]), List.zip_cons_cons]
 have h1 : (a.zip b).take i = (a.take i).zip (b.take i) := List.take_zipWith
 have h2 : (a.zip b).drop i = (a.drop i).zip (b.drop i) := List.drop_zipWith
 rw [h1, h2]
/-- Where a key belongs that is not there, below and above. -/
theorem place_lt {p : PgL} {n : Int} (hp : PageOk p n) {up : K} (hn : up ∉ p.keys) : (∀ j (hj : j < p.keys.length), j < placeF p up → klt p.keys[j] up) ∧ (∀ j (hj : j < p.keys.length), placeF p up ≤ j → klt up p.keys[j]) ∧ placeF p up ≤ p.keys.length := by
  unfold placeF
  split
  · refine ⟨fun j hj h => (downN_at h).2, fun j hj h => ?_, downN_le _ _⟩
    have hlt : downN p.keys up < p.keys.length := by omega
    have h1 := downN_end hlt
    have h2 : ¬ klt p.keys[j] up := by
      rcases Nat.lt_or_ge (downN p.keys up) j with h' | h'
      · exact fun hh => h1 (klt_tr (rise_at hp.rise h' hj) hh)
      · have : downN p.keys up = j := by omega
        subst this; exact h1
    rcases klt_or p.keys[j] up with h | h | h
    · exact absurd h h2
    · exact absurd (h ▸ List.getElem_mem hj) hn
    · exact h
  · refine ⟨fun j hj h => ?_, fun j hj h => ?_, uptoN_le _ _⟩
    · have h2 := (uptoN_at h).2
      rcases klt_or p.keys[j] up with h | h | h
      · exact h
      · exact absurd (h ▸ List.getElem_mem hj) hn
      · exact absurd h h2
    · have hlt : uptoN p.keys up < p.keys.length := by omega
      have h1 := uptoN_end hlt
      rcases Nat.lt_or_ge (uptoN p.keys up) j with h' | h'
      · exact klt_tr h1 (rise_at hp.rise h' hj)
      · have : uptoN p.keys up = j := by omega
        subst this; exact h1
theorem put_rise {p : PgL} {n : Int} (hp : PageOk p n) {up : K} (hn : up ∉ p.keys) : (insAt p.keys (placeF p up) up).Pairwise klt := by
 obtain ⟨h1, h2, h3⟩ := place_lt hp hn
 unfold insAt
 have hr := hp.rise
 conv at hr => rw [← List.take_append_drop (placeF p up) p.keys]
 rw [List.pairwise_append] at hr
 rw [List.pairwise_append, List.pairwise_cons]
 refine ⟨hr.1, ⟨fun y hy => ?_, hr.2.1⟩, fun x hx y hy => ?_⟩
 ·obtain ⟨j, hj, rfl⟩ := List.mem_iff_getElem.1 hy
  rw [List.length_drop] at hj; rw [List.getElem_drop]
  exact h2 _ (by omega) (by omega)
 ·rcases List.mem_cons.1 hy with rfl | hy
  ·obtain ⟨j, hj, rfl⟩ := List.mem_iff_getElem.1 hx
   rw [List.length_take] at hj; rw [List.getElem_take]
   exact h1 _ (by omega) (by omega)
  ·exact hr.2.2 x hx y hy
/-- A page with one key more may be, but that it may be too full. -/
structure FullOk (p : PgL) (many : Int) : Prop where
  few : p.keys.length ≤ 5
  hlen : p.high.length ≤ 100
  nlow : -1 ≤ p.next
  nhigh : p.next < many
  nend : p.next < 0 ↔ p.high = []
  leaf : p.leaf = true → p.kids.length = p.keys.length
  node : p.leaf = false → p.kids.length = p.keys.length + 1 ∧ p.keys ≠ []
  klen : ∀ k ∈ p.keys, 1 ≤ k.length ∧ k.length ≤ 100
  khigh : p.high ≠ [] → ∀ k ∈ p.keys, klt k p.high
  rise : p.keys.Pairwise klt
  kid : ∀ n ∈ p.kids, 0 ≤ n
  kidn : p.leaf = false → ∀ n ∈ p.kids, n < many
theorem FullOk.ok {p : PgL} {n : Int} (h : FullOk p n) (hl : p.keys.length ≤ 4) : PageOk p n := ⟨hl, h.hlen, h.nlow, h.nhigh, h.nend, h.leaf, h.node, h.klen, h.khigh, h.rise, h.kid, h.kidn⟩
theorem put_full {p : PgL} {n : Int} (hp : PageOk p n) {up : K} {kid : Int} (hn : up ∉ p.keys) (hu : 1 ≤ up.length ∧ up.length ≤ 100) (hh : p.high ≠ [] → klt up p.high) (hk : 0 ≤ kid) (hkn : p.leaf = false → kid < n) : FullOk (putP p up kid) n := by
 obtain ⟨_, _, h3⟩ := place_lt hp hn
 have hf := hp.few
 refine ⟨?_, hp.hlen, hp.nlow, hp.nhigh, hp.nend, fun hl => ?_, fun hl => ?_, fun k hk' => ?_, fun hne k hk' => ?_, put_rise hp hn, fun m hm => ?_, fun hl m hm => ?_⟩
 ·show (insAt _ _ _).length ≤ 5; rw [insAt_len _ h3]; omega
 ·have hl' : p.leaf = true := hl
  show (insAt _ _ _).length = (insAt _ _ _).length
  rw [if_pos hl', insAt_len _ h3, insAt_len _ (by rw [hp.leaf hl']; exact h3), hp.leaf hl']
 ·have hl' : p.leaf = false := hl
  refine ⟨?_, ?_⟩
  ·show (insAt _ _ _).length = (insAt _ _ _).length + 1
   rw [if_neg (by rw [hl']; decide), insAt_len _ h3, insAt_len _ (by rw [(hp.node hl').1]; omega), (hp.node hl').1]
  ·show insAt _ _ _ ≠ []
   intro e; have := congrArg List.length e; rw [insAt_len _ h3] at this; simp at this
 ·rcases mem_insAt.1 hk' with rfl | h
  ·exact hu
  ·exact hp.klen k h
 ·rcases mem_insAt.1 hk' with rfl | h
  ·exact hh hne
  ·exact hp.khigh hne k h
 ·rcases mem_insAt.1 hm with rfl | h
  ·exact hk
  ·exact hp.kid m h
 ·rcases mem_insAt.1 hm with rfl | h
  ·exact hkn hl
  ·exact hp.kidn hl m h
/-- The halves of a page that is too full. -/
theorem upK_at {p : PgL} (h : p.keys.length = 5) : upK p = p.keys[2] := by unfold upK; rw [List.getD_eq_getElem?_getD, List.getElem?_eq_getElem (by omega)]; rfl
theorem low_ok {p : PgL} {n : Int} (hp : FullOk p n) (h5 : p.keys.length = 5) (h0 : 0 ≤ n) : PageOk (lowP p n) (n + 1) := by
 have hu := upK_at h5
 have hum : upK p ∈ p.keys := by rw [hu]; exact List.getElem_mem _
 refine ⟨?_, (hp.klen _ hum).2, by show -1 ≤ n; omega, by show n < n + 1; omega, ?_, fun hl => ?_, fun hl => ?_, fun k hk => hp.klen k (List.mem_of_mem_take hk), fun _ k hk => ?_, hp.rise.sublist (List.take_sublist _ _), fun x hx => hp.kid x (List.mem_of_mem_take hx), fun hl x hx => ?_⟩
 ·show (p.keys.take 2).length ≤ 4; rw [List.length_take]; omega
 ·show n < 0 ↔ upK p = []
  have := (hp.klen _ hum).1
  exact ⟨fun h => by omega, fun h => by rw [h] at this; simp at this⟩
 ·have hl' : p.leaf = true := hl
  show (p.kids.take (if p.leaf = true then 2 else 3)).length = (p.keys.take 2).length
  rw [if_pos hl', List.length_take, List.length_take, hp.leaf hl']
 ·have hl' : p.leaf = false := hl
  refine ⟨?_, ?_⟩
  ·show (p.kids.take (if p.leaf = true then 2 else 3)).length = (p.keys.take 2).length + 1
   rw [if_neg (by rw [hl']; decide), List.length_take, List.length_take, (hp.node hl').1]; omega
  ·show p.keys.take 2 ≠ []
   intro e; have := congrArg List.length e; rw [List.length_take, h5] at this; cases this
 ·have hk' : k ∈ p.keys.take 2 := hk
  obtain ⟨j, hj, rfl⟩ := List.mem_iff_getElem.1 hk'
  rw [List.length_take] at hj
  show klt (p.keys.take 2)[j] (upK p)
  rw [List.getElem_take, hu]
  exact rise_at hp.rise (by omega) (by omega)
 ·have hl' : p.leaf = false := hl
  have := hp.kidn hl' x (List.mem_of_mem_take hx); omega
theorem high_ok {p : PgL} {n m : Int} (hp : FullOk p n) (h5 : p.keys.length = 5) (hm : n ≤ m) : PageOk (highP p) m := by
 refine ⟨?_, hp.hlen, hp.nlow, by have := hp.nhigh; show p.next < m; omega, hp.nend, fun hl => ?_, fun hl => ?_, fun k hk => hp.klen k (List.mem_of_mem_drop hk), fun hne k hk => hp.khigh hne k (List.mem_of_mem_drop hk), hp.rise.sublist (List.drop_sublist _ _), fun x hx => hp.kid x (List.mem_of_mem_drop hx), fun hl x hx => ?_⟩
 ·show (p.keys.drop _).length ≤ 4; rw [List.length_drop]; split <;> omega
 ·have hl' : p.leaf = true := hl
  show (p.kids.drop _).length = (p.keys.drop _).length
  rw [List.length_drop, List.length_drop, hp.leaf hl']
 ·have hl' : p.leaf = false := hl
  refine ⟨?_, ?_⟩
  ·show (p.kids.drop _).length = (p.keys.drop _).length + 1
   rw [List.length_drop, List.length_drop, (hp.node hl').1, if_neg (by rw [hl']; decide)]; omega
  ·show p.keys.drop _ ≠ []
   intro e; have := congrArg List.length e; rw [List.length_drop, if_neg (by rw [hl']; decide)] at this; simp at this; omega
 ·have hl' : p.leaf = false := hl
  have := hp.kidn hl' x (List.mem_of_mem_drop hx); omega
end Go.Proofs.Ythnobhekodiciaa.Tr

namespace Go.Proofs.Ythnobhekodiciaa.Tr
open Go.Lib (compareBytes)
set_option linter.unusedVariables false
set_option linter.unusedSimpArgs false

/-- Kids, with keys between them. -/
def KidsT (t : TreeL) (h : Nat) : K → List Int → List K → K → Prop
  | low, c :: cs, ks, high => match cs, ks with
    | [], [] => OkT t h c low high
    | _ :: _, k :: ks => OkT t h c low k ∧ KidsT t h k cs ks high
    | _, _ => False
  | _, [], _, _ => False
theorem kids_one {t : TreeL} {h : Nat} {low high : K} {c : Int} : KidsT t h low [c] [] high ↔ OkT t h c low high := by rw [KidsT]
theorem kids_cons {t : TreeL} {h : Nat} {low high k : K} {c d : Int} {cs : List Int} {ks : List K} : KidsT t h low (c :: d :: cs) (k :: ks) high ↔ OkT t h c low k ∧ KidsT t h k (d :: cs) ks high := by rw [KidsT]
theorem kids_iff {t : TreeL} {h : Nat} {high : K} : ∀ {kids : List Int} {keys : List K} {low : K}, kids.length = keys.length + 1 →
  ((∀ j (hj : j < kids.length), OkT t h kids[j] (if j = 0 then low else keys.getD (j - 1) []) (keys.getD j high)) ↔ KidsT t h low kids keys high)
 | [], keys, low, e => by simp at e
 | [c], [], low, e => by
  rw [kids_one]
  constructor
  ·intro q; exact q 0 (by simp)
  ·intro q j hj
   obtain rfl : j = 0 := by simpa using hj
   exact q
 | [c], k :: ks, low, e => by simp at e
 | c :: d :: cs, [], low, e => by simp at e
 | c :: d :: cs, k :: ks, low, e => by
  rw [kids_cons, ← kids_iff (kids := d :: cs) (keys := ks) (low := k) (by simpa using e)]
  constructor
  ·intro q
   refine ⟨q 0 (by simp), fun j hj => ?_⟩
   have := q (j + 1) (by simpa using hj)
   rw [if_neg (by omega)] at this
   simp only [List.getElem_cons_succ, Nat.add_sub_cancel, List.getD_cons_succ] at this
   cases j with
   | zero => exact this
   | succ j => exact this
  ·rintro ⟨q0, q⟩ j hj
   cases j with
   | zero => exact q0
   | succ j =>
    have := q j (by simpa using hj)
    rw [if_neg (by omega)]
    simp only [List.getElem_cons_succ, Nat.add_sub_cancel, List.getD_cons_succ]
    cases j with
    | zero => exact this
    | succ j => exact this
theorem ok_kids {t : TreeL} {h : Nat} {i : Int} {low high : K} {n : Int} (hp : PageOk (t.pg i) n) : OkT t (h + 1) i low high ↔ (0 ≤ i ∧ i < t.pages.length) ∧ (t.pg i).leaf = false ∧ (t.pg i).high = high ∧ (∀ k ∈ (t.pg i).keys, ¬ klt k low) ∧ KidsT t h low (t.pg i).kids (t.pg i).keys high := by
 constructor
 ·rintro ⟨q1, q2, q3, q4, q5⟩
  refine ⟨q1, q2, q3, q4, ?_⟩
  rw [← kids_iff (hp.node q2).1]
  intro j hj
  have := q5 j hj
  unfold loK hiK at this
  rw [q3] at this; exact this
 ·rintro ⟨q1, q2, q3, q4, q5⟩
  refine ⟨q1, q2, q3, q4, ?_⟩
  rw [← kids_iff (hp.node q2).1] at q5
  intro j hj
  have := q5 j hj
  unfold loK hiK
  rw [q3]; exact this
theorem kids_map {t u : TreeL} {h : Nat} {high : K} : ∀ {kids : List Int} {keys : List K} {low : K}, KidsT t h low kids keys high → (∀ c ∈ kids, ∀ lo hi, OkT t h c lo hi → OkT u h c lo hi) → KidsT u h low kids keys high
 | [], keys, low, q, _ => by simp [KidsT] at q
 | [c], [], low, q, f => by rw [kids_one] at q ⊢; exact f c (by simp) _ _ q
 | [c], k :: ks, low, q, f => by simp [KidsT] at q
 | c :: d :: cs, [], low, q, f => by simp [KidsT] at q
 | c :: d :: cs, k :: ks, low, q, f => by
  rw [kids_cons] at q ⊢
  exact ⟨f c (by simp) _ _ q.1, kids_map q.2 fun x hx => f x (by simp at hx ⊢; exact .inr hx)⟩
/-- A kid gives way to two, with a key between them. -/
theorem kids_put {t u : TreeL} {h : Nat} {high up : K} {kid : Int} : ∀ (j : Nat) {kids : List Int} {keys : List K} {low : K} (hj : j < kids.length), KidsT t h low kids keys high →
    (∀ c ∈ kids.eraseIdx j, ∀ lo hi, OkT t h c lo hi → OkT u h c lo hi) →
    (OkT u h kids[j] (if j = 0 then low else keys.getD (j - 1) []) up) → OkT u h kid up (keys.getD j high) → KidsT u h low (insAt kids (j + 1) kid) (insAt keys j up) high
  | 0, [], keys, low, hj, q, f, q1, q2 => by simp at hj
  | 0, [c], [], low, hj, q, f, q1, q2 => by
    show KidsT u h low [c, kid] [up] high
    rw [kids_cons, kids_one]; exact ⟨q1, q2⟩
  | 0, [c], k :: ks, low, hj, q, f, q1, q2 => by simp [KidsT] at q
  | 0, c :: d :: cs, [], low, hj, q, f, q1, q2 => by simp [KidsT] at q
  | 0, c :: d :: cs, k :: ks, low, hj, q, f, q1, q2 => by
    show KidsT u h low (c :: kid :: d :: cs) (up :: k :: ks) high
    rw [kids_cons, kids_cons]
    rw [kids_cons] at q
    exact ⟨q1, q2, kids_map q.2 fun x hx => f x (by simpa using hx)⟩
  | j + 1, [], keys, low, hj, q, f, q1, q2 => by simp at hj
  | j + 1, [c], keys, low, hj, q, f, q1, q2 => by simp at hj
  | j + 1, c :: d :: cs, [], low, hj, q, f, q1, q2 => by simp [KidsT] at q
  | j + 1, c :: d :: cs, k :: ks, low, hj, q, f, q1, q2 => by
    rw [kids_cons] at q
    have e1 : insAt (c :: d :: cs) (j + 1 + 1) kid = c :: insAt (d :: cs) (j + 1) kid := rfl
    have e2 : insAt (k :: ks) (j + 1) up = k :: insAt ks j up := rfl
    rw [e1, e2]
    have ih := kids_put (t := t) (u := u) (up := up) (kid := kid) j (kids := d :: cs) (keys := ks) (low := k) (by simpa using hj) q.2 (fun x hx => f x (by rw [List.eraseIdx_cons_succ]; exact List.mem_cons_of_mem _ hx)) (by
      have := q1; rw [if_neg (by omega)] at this
      simp only [List.getElem_cons_succ, Nat.add_sub_cancel] at this
      cases j with
      | zero => exact this
      | succ j => exact this) (by simpa using q2)
    have e3 : insAt (d :: cs) (j + 1) kid = d :: insAt cs j kid := rfl
    rw [e3] at ih ⊢
    rw [kids_cons]
    exact ⟨f c (by rw [List.eraseIdx_cons_succ]; simp) _ _ q.1, ih⟩
theorem kids_split {t : TreeL} {h : Nat} {high : K} : ∀ (m : Nat) {kids : List Int} {keys : List K} {low : K} (hm : m < keys.length), KidsT t h low kids keys high → KidsT t h low (kids.take (m + 1)) (keys.take m) keys[m] ∧ KidsT t h keys[m] (kids.drop (m + 1)) (keys.drop (m + 1)) high
 | 0, c :: d :: cs, k :: ks, low, hm, q => by
  rw [kids_cons] at q
  exact ⟨kids_one.2 q.1, q.2⟩
 | m + 1, c :: d :: cs, k :: ks, low, hm, q => by
  rw [kids_cons] at q
  obtain ⟨q1, q2⟩ := kids_split m (kids := d :: cs) (keys := ks) (by simpa using hm) q.2
  refine ⟨?_, q2⟩
  have e : (c :: d :: cs).take (m + 1 + 1) = c :: d :: cs.take m := rfl
  rw [e]
  show KidsT t h low (c :: d :: cs.take m) (k :: ks.take m) _
  rw [kids_cons]; exact ⟨q.1, q1⟩
 | _, _, [], _, hm, _ => by simp at hm
 | _, [], _ :: _, _, _, q => by simp [KidsT] at q
 | _, [c], _ :: _, _, _, q => by simp [KidsT] at q

/-! ### Pages that lead to one another -/
theorem seg_app {t : TreeL} {e : Int} : ∀ {a b : List Int}, Seg t (a ++ b) e ↔ Seg t a (b.headD e) ∧ Seg t b e
 | [], b => by simp [Seg]
 | [i], [] => by simp [Seg]
 | [i], j :: b => by simp [Seg]
 | i :: j :: a, b => by
  have := seg_app (t := t) (e := e) (a := j :: a) (b := b)
  show (t.pg i).next = j ∧ Seg t (j :: a ++ b) e ↔ ((t.pg i).next = j ∧ Seg t (j :: a) (b.headD e)) ∧ Seg t b e
  rw [this, and_assoc]
theorem seg_frame {t u : TreeL} : ∀ {a : List Int} {e : Int}, (∀ j ∈ a, (u.pg j).next = (t.pg j).next) → Seg t a e → Seg u a e
 | [], e, _, _ => trivial
 | [i], e, f, h => by show (u.pg i).next = e; rw [f i (by simp)]; exact h
 | i :: j :: a, e, f, h => ⟨by rw [f i (by simp)]; exact h.1, seg_frame (fun x hx => f x (List.mem_cons_of_mem _ hx)) h.2⟩
theorem lvl_ne {t : TreeL} {n : Int} (hp : ∀ p ∈ t.pages, PageOk p n) : ∀ {h : Nat} {i : Int} {low high : K}, OkT t h i low high → ∀ d, d ≤ h → lvl t d i ≠ []
  | 0, i, low, high, ok, d, hd => by obtain rfl : d = 0 := by omega
                                     simp [lvl]
  | h + 1, i, low, high, ok, d, hd => by
    cases d with
    | zero => simp [lvl]
    | succ d =>
      obtain ⟨q1, q2, q3, q4, q5⟩ := ok
      have po := hp _ (pg_mem q1)
      have hl := (po.node q2).1
      have h0 : 0 < (t.pg i).kids.length := by omega
      have := lvl_ne hp (q5 0 h0) d (by omega)
      rw [lvl]
      intro e
      rw [List.flatMap_eq_nil_iff] at e
      exact this (e _ (List.getElem_mem h0))
theorem lvl_ids {t : TreeL} : ∀ (h : Nat) (i : Int) (d : Nat), d ≤ h → ∀ x ∈ lvl t d i, x ∈ ids t h i
  | 0, i, d, hd, x, hx => by obtain rfl : d = 0 := by omega
                             exact hx
  | h + 1, i, 0, hd, x, hx => by
    have : x = i := by simpa [lvl] using hx
    subst this; exact ids_head _ _
  | h + 1, i, d + 1, hd, x, hx => by
    rw [lvl] at hx
    obtain ⟨c, hc, hx⟩ := List.mem_flatMap.1 hx
    rw [ids]
    exact List.mem_cons_of_mem _ (List.mem_flatMap.2 ⟨c, hc, lvl_ids h c d (by omega) x hx⟩)
theorem headD_app {α : Type} {a b : List α} (h : a ≠ []) (e : α) : (a ++ b).headD e = a.headD e := by
 cases a with
 | nil => exact absurd rfl h
 | cons x r => rfl
end Go.Proofs.Ythnobhekodiciaa.Tr

namespace Go.Proofs.Ythnobhekodiciaa.Tr
open Go.Lib (compareBytes)
set_option linter.unusedVariables false
set_option linter.unusedSimpArgs false

def idsR (t : TreeL) (h : Nat) (i : Int) : Option (K × Int) → List Int
 | none => ids t h i
 | some (_, kid) => ids t h i ++ ids t h kid
def entsR (t : TreeL) (h : Nat) (i : Int) : Option (K × Int) → List (K × Int)
 | none => ents t h i
 | some (_, kid) => ents t h i ++ ents t h kid
def lvlR (t : TreeL) (d : Nat) (i : Int) : Option (K × Int) → List Int
 | none => lvl t d i
 | some (_, kid) => lvl t d i ++ lvl t d kid
def okR (t : TreeL) (h : Nat) (i : Int) (low high : K) : Option (K × Int) → Prop
 | none => OkT t h i low high
 | some (up, kid) => (1 ≤ up.length ∧ up.length ≤ 100) ∧ klt low up ∧ (high ≠ [] → klt up high) ∧ OkT t h i low up ∧ OkT t h kid up high
structure Ins (t u : TreeL) (h : Nat) (i : Int) (low high : K) (k : K) (row : Int) (r : Option (K × Int)) : Prop where
 le : t.pages.length ≤ u.pages.length
 more : u.pages.length ≤ t.pages.length + (h + 1)
 root : u.root = t.root
 page : ∀ p ∈ u.pages, PageOk p u.pages.length
 out : ∀ j : Int, 0 ≤ j → j < t.pages.length → j ∉ ids t h i → u.pg j = t.pg j
 ok : okR u h i low high r
 sub : ∀ x ∈ idsR u h i r, x ∈ ids t h i ∨ (t.pages.length : Int) ≤ x
 nodup : (idsR u h i r).Nodup
 cnt : (idsR u h i r).length + t.pages.length = (ids t h i).length + u.pages.length
 ents : ∀ x, x ∈ entsR u h i r ↔ x = (k, row) ∨ x ∈ ents t h i
 seg : ∀ d, d ≤ h → ∀ e, Seg t (lvl t d i) e → Seg u (lvlR u d i r) e ∧ (lvlR u d i r).headD e = (lvl t d i).headD e

/-! ### One page set, one page added -/
def addT (t : TreeL) (i : Int) (a b : PgL) : TreeL := ⟨(t.pages.set i.toNat a) ++ [b], t.root⟩
theorem addT_len (t : TreeL) (i : Int) (a b : PgL) : (addT t i a b).pages.length = t.pages.length + 1 := by simp [addT]
theorem addT_same {t : TreeL} {i : Int} (h : 0 ≤ i ∧ i < t.pages.length) (a b : PgL) : (addT t i a b).pg i = a := by
 unfold TreeL.pg addT
 rw [List.getD_eq_getElem?_getD, List.getElem?_append_left (by rw [List.length_set]; omega), List.getElem?_set_self (by omega)]; rfl
theorem addT_new (t : TreeL) (i : Int) (a b : PgL) : (addT t i a b).pg t.pages.length = b := by
 unfold TreeL.pg addT
 rw [List.getD_eq_getElem?_getD, List.getElem?_append_right (by rw [List.length_set]; omega), List.length_set]
 simp
theorem addT_other {t : TreeL} {i j : Int} (hi : 0 ≤ i) (hj : 0 ≤ j ∧ j < t.pages.length) (h : i ≠ j) (a b : PgL) : (addT t i a b).pg j = t.pg j := by
 unfold TreeL.pg addT
 rw [List.getD_eq_getElem?_getD, List.getD_eq_getElem?_getD, List.getElem?_append_left (by rw [List.length_set]; omega), List.getElem?_set_ne (by omega)]
theorem set_pages {t : TreeL} {i : Int} {q : PgL} {n : Int} (hp : ∀ p ∈ t.pages, PageOk p n) (hq : PageOk q n) : ∀ p ∈ (t.set i q).pages, PageOk p n := fun p h => by
 rcases List.mem_or_eq_of_mem_set h with h | rfl
 ·exact hp p h
 ·exact hq
theorem addT_pages {t : TreeL} {i : Int} {a b : PgL} {n m : Int} (hp : ∀ p ∈ t.pages, PageOk p n) (hm : n ≤ m) (ha : PageOk a m) (hb : PageOk b m) : ∀ p ∈ (addT t i a b).pages, PageOk p m := fun p h => by
 unfold addT at h
 rcases List.mem_append.1 h with h | h
 ·rcases List.mem_or_eq_of_mem_set h with h | rfl
  ·exact (hp p h).more hm
  ·exact ha
 ·rw [List.mem_singleton] at h; subst h; exact hb
/-- The two ways in which a page takes a key more. -/
theorem putT_few {t : TreeL} {i : Int} {up : K} {kid : Int} (h : (putP (t.pg i) up kid).keys.length ≤ 4) : putT t i up kid = (t.set i (putP (t.pg i) up kid), none) := by unfold putT; rw [if_pos h]
theorem putT_full {t : TreeL} {i : Int} {up : K} {kid : Int} (h : ¬ (putP (t.pg i) up kid).keys.length ≤ 4) : putT t i up kid = (addT t i (lowP (putP (t.pg i) up kid) t.pages.length) (highP (putP (t.pg i) up kid)), some (upK (putP (t.pg i) up kid), (t.pages.length : Int))) := by unfold putT; rw [if_neg h]; rfl
theorem up_rise {q : PgL} (hr : q.keys.Pairwise klt) (h5 : q.keys.length = 5) {low : K} (hl : ∀ k ∈ q.keys, ¬ klt k low) : klt low (upK q) ∧ (∀ k ∈ q.keys.drop 2, ¬ klt k (upK q)) := by
 rw [upK_at h5]
 refine ⟨lt_of_le_lt (hl _ (List.getElem_mem (by omega : 0 < q.keys.length))) (rise_at hr (by omega) (by omega)), fun k hk => ?_⟩
 obtain ⟨j, hj, rfl⟩ := List.mem_iff_getElem.1 hk
 rw [List.length_drop] at hj
 rw [List.getElem_drop]
 rcases Nat.eq_zero_or_pos j with rfl | h0
 ·exact klt_irr _
 ·exact klt_as (rise_at hr (by omega) (by omega))
/-! ### A leaf -/
theorem ins_leaf {t : TreeL} (hp : ∀ p ∈ t.pages, PageOk p t.pages.length) {i : Int} {low high : K} (ok : OkT t 0 i low high) {k : K} {row : Int} (hk : inR low high k) (hn : ∀ x ∈ ents t 0 i, x.1 ≠ k) (hl : 1 ≤ k.length ∧ k.length ≤ 100) (hr : 0 ≤ row) : Ins t (putT t i k row).1 0 i low high k row (putT t i k row).2 := by
 obtain ⟨q1, q2, q3, q4⟩ := ok
 have po := hp _ (pg_mem q1)
 have hkn : k ∉ (t.pg i).keys := fun hm => by
  obtain ⟨j, hj, e⟩ := List.mem_iff_getElem.1 hm
  have hlen := po.leaf q2
  refine hn ((t.pg i).keys[j], (t.pg i).kids[j]'(by omega)) ?_ e
  show _ ∈ pageE (t.pg i)
  unfold pageE
  exact List.mem_iff_getElem.2 ⟨j, by rw [List.length_zip]; omega, by rw [List.getElem_zip]⟩
 have hf : FullOk (putP (t.pg i) k row) t.pages.length := put_full po hkn hl (fun hne => hk.2 (by rw [← q3]; exact hne) |> fun h => by rw [q3]; exact h) hr (fun h => by rw [q2] at h; cases h)
 have hpl := (place_lt po hkn).2.2
 have hE : pageE (putP (t.pg i) k row) = insAt (pageE (t.pg i)) (placeF (t.pg i) k) (k, row) := by
  show (insAt _ _ _).zip (insAt _ _ _) = _
  rw [if_pos q2]
  exact zip_insAt (po.leaf q2) hpl k row
 have hlow : ∀ x ∈ (putP (t.pg i) k row).keys, ¬ klt x low := fun x hx => by
  rcases mem_insAt.1 hx with rfl | h
  ·exact hk.1
  ·exact q4 x h
 by_cases h4 : (putP (t.pg i) k row).keys.length ≤ 4
 ·rw [putT_few h4]
  have es := set_same q1 (putP (t.pg i) k row)
  refine ⟨by rw [set_len]; omega, by rw [set_len]; omega, rfl, by rw [set_len]; exact set_pages hp (hf.ok h4), fun j h0 hj hne => ?_, ?_, fun x hx => .inl hx, ?_, by rw [set_len]; rfl, fun x => ?_, fun d hd e hs => ?_⟩
  ·exact set_other q1.1 h0 (by intro e; subst e; simp [ids] at hne) _
  ·exact ⟨by rw [set_len]; exact q1, by rw [es]; exact q2, by rw [es]; exact q3, by rw [es]; exact hlow⟩
  ·show [i].Nodup; simp
  ·show x ∈ pageE ((t.set i _).pg i) ↔ _
   rw [es, hE, mem_insAt]; rfl
  ·obtain rfl : d = 0 := by omega
   refine ⟨?_, rfl⟩
   show ((t.set i _).pg i).next = e
   rw [es]; exact hs
 ·have h5 : (putP (t.pg i) k row).keys.length = 5 := by have := hf.few; omega
  rw [putT_full h4]
  have q2' : (putP (t.pg i) k row).leaf = true := q2
  have ea := addT_same q1 (lowP (putP (t.pg i) k row) t.pages.length) (highP (putP (t.pg i) k row))
  have eb := addT_new t i (lowP (putP (t.pg i) k row) t.pages.length) (highP (putP (t.pg i) k row))
  obtain ⟨u1, u2⟩ := up_rise hf.rise h5 hlow
  have hum : upK (putP (t.pg i) k row) ∈ (putP (t.pg i) k row).keys := by rw [upK_at h5]; exact List.getElem_mem _
  have hpe : pageE (lowP (putP (t.pg i) k row) t.pages.length) ++ pageE (highP (putP (t.pg i) k row)) = pageE (putP (t.pg i) k row) := by
   show ((putP (t.pg i) k row).keys.take 2).zip ((putP (t.pg i) k row).kids.take (if (putP (t.pg i) k row).leaf = true then 2 else 3)) ++ ((putP (t.pg i) k row).keys.drop (if (putP (t.pg i) k row).leaf = true then 2 else 3)).zip ((putP (t.pg i) k row).kids.drop (if (putP (t.pg i) k row).leaf = true then 2 else 3)) = _
   rw [if_pos q2', ← List.zip_append (by rw [List.length_take, List.length_take, hf.leaf q2']), List.take_append_drop, List.take_append_drop]; rfl
  refine ⟨by rw [addT_len]; omega, by rw [addT_len]; omega, rfl, ?_, fun j h0 hj hne => ?_, ⟨hf.klen _ hum, u1, fun hne => hf.khigh (by show (t.pg i).high ≠ []; rw [q3]; exact hne) _ hum |> fun h => by rw [← q3]; exact h, ?_, ?_⟩, fun x hx => ?_, ?_, by rw [addT_len]; show [i, (t.pages.length : Int)].length + _ = [i].length + _; simp; omega, fun x => ?_, fun d hd e hs => ?_⟩
  ·rw [addT_len]
   exact addT_pages hp (by omega) (low_ok hf h5 (by omega)) (high_ok hf h5 (by omega))
  ·exact addT_other q1.1 ⟨h0, hj⟩ (by intro e; subst e; simp [ids] at hne) _ _
  ·exact ⟨by rw [addT_len]; omega, by rw [ea]; exact q2', by rw [ea]; rfl, by rw [ea]; exact fun x hx => hlow x (List.mem_of_mem_take hx)⟩
  ·refine ⟨by rw [addT_len]; omega, by rw [eb]; exact q2', by rw [eb]; exact q3, ?_⟩
   rw [eb]
   show ∀ x ∈ (putP (t.pg i) k row).keys.drop (if (putP (t.pg i) k row).leaf = true then 2 else 3), _
   rw [if_pos q2']; exact u2
  ·have hx' : x ∈ [i, (t.pages.length : Int)] := hx
   simp only [List.mem_cons, List.not_mem_nil, or_false] at hx'
   rcases hx' with rfl | rfl
   ·exact .inl (by simp [ids])
   ·exact .inr (Int.le_refl _)
  ·show [i, (t.pages.length : Int)].Nodup
   simp; omega
  ·show x ∈ pageE ((addT t i _ _).pg i) ++ pageE ((addT t i _ _).pg _) ↔ _
   rw [ea, eb, hpe, hE, mem_insAt]; rfl
  ·obtain rfl : d = 0 := by omega
   refine ⟨?_, rfl⟩
   show ((addT t i _ _).pg i).next = _ ∧ ((addT t i _ _).pg _).next = e
   rw [ea, eb]
   exact ⟨rfl, hs⟩
end Go.Proofs.Ythnobhekodiciaa.Tr

namespace Go.Proofs.Ythnobhekodiciaa.Tr
open Go.Lib (compareBytes)
set_option linter.unusedVariables false
set_option linter.unusedSimpArgs false

theorem upto_eq {keys : List K} (hr : keys.Pairwise klt) {up : K} {j : Nat} (hj : j ≤ keys.length) (h1 : ∀ (h : 0 < j), ¬ klt up (keys[j - 1]'(by omega))) (h2 : ∀ (h : j < keys.length), klt up keys[j]) : uptoN keys up = j := by
 have hle := uptoN_le keys up
 rcases Nat.lt_trichotomy (uptoN keys up) j with h | h | h
 ·exfalso
  have hlt : uptoN keys up < keys.length := by omega
  have h3 := uptoN_end hlt
  have h4 := h1 (by omega)
  rcases Nat.lt_or_ge (uptoN keys up) (j - 1) with h5 | h5
  ·exact h4 (klt_tr h3 (rise_at hr h5 (by omega)))
  ·have : uptoN keys up = j - 1 := by omega
   simp only [this] at h3; exact h4 h3
 ·exact h
 ·exact absurd (h2 (by omega)) (uptoN_at h).2
theorem insAt_split {α : Type} {l : List α} {j : Nat} (hj : j < l.length) (x : α) : insAt l (j + 1) x = l.take j ++ l[j] :: x :: l.drop (j + 1) := by
 unfold insAt
 rw [List.take_succ_eq_append_getElem hj, List.append_assoc]; rfl
theorem split_at {α : Type} {l : List α} {j : Nat} (hj : j < l.length) : l = l.take j ++ l[j] :: l.drop (j + 1) := by
 conv => lhs; rw [← List.take_append_drop j l, List.drop_eq_getElem_cons hj]
theorem erase_split {α : Type} {l : List α} {j : Nat} {x : α} (h : x ∈ l.eraseIdx j) : x ∈ l.take j ∨ x ∈ l.drop (j + 1) := by
 rw [List.eraseIdx_eq_take_drop_succ] at h; exact List.mem_append.1 h
variable {t : TreeL}
/-- What is below one kid is not below another. -/
theorem apart_ids {h : Nat} {i : Int} {j : Nat} (hj : j < (t.pg i).kids.length) (hn : (ids t (h + 1) i).Nodup) : (ids t h (t.pg i).kids[j]).Nodup ∧ i ∉ ids t h (t.pg i).kids[j] ∧ (∀ x ∈ (t.pg i).kids.take j ++ (t.pg i).kids.drop (j + 1), (∀ y ∈ ids t h x, y ∉ ids t h (t.pg i).kids[j]) ∧ i ∉ ids t h x) ∧
    (((t.pg i).kids.take j).flatMap (ids t h) ++ ((t.pg i).kids.drop (j + 1)).flatMap (ids t h)).Nodup ∧ i ∉ ((t.pg i).kids.take j).flatMap (ids t h) ++ ((t.pg i).kids.drop (j + 1)).flatMap (ids t h) := by
  rw [ids, List.nodup_cons] at hn
  obtain ⟨h0, hn⟩ := hn
  have hs := split_at hj
  rw [hs, List.flatMap_append, List.flatMap_cons] at hn h0
  simp only [List.mem_append, not_or] at h0
  rw [List.nodup_append] at hn
  obtain ⟨n1, n2, n3⟩ := hn
  rw [List.nodup_append] at n2
  obtain ⟨n4, n5, n6⟩ := n2
  refine ⟨n4, h0.2.1, fun x hx => ?_, ?_, ?_⟩
  · rcases List.mem_append.1 hx with hx | hx
    · exact ⟨fun y hy hc => n3 y (List.mem_flatMap.2 ⟨x, hx, hy⟩) y (List.mem_append_left _ hc) rfl, fun hi => h0.1 (List.mem_flatMap.2 ⟨x, hx, hi⟩)⟩
    · exact ⟨fun y hy hc => n6 y hc y (List.mem_flatMap.2 ⟨x, hx, hy⟩) rfl, fun hi => h0.2.2 (List.mem_flatMap.2 ⟨x, hx, hi⟩)⟩
  · rw [List.nodup_append]
    exact ⟨n1, n5, fun a ha b hb => n3 a ha b (List.mem_append_right _ hb)⟩
  · simp only [List.mem_append, not_or]; exact ⟨h0.1, h0.2.2⟩
theorem flat_kids {α : Type} {f g : Int → List α} {A B : List Int} {c kid : Int} (hA : ∀ x ∈ A, f x = g x) (hB : ∀ x ∈ B, f x = g x) : (A ++ c :: kid :: B).flatMap f = A.flatMap g ++ (f c ++ f kid) ++ B.flatMap g := by
 rw [List.flatMap_append, List.flatMap_cons, List.flatMap_cons, fm_congr hA, fm_congr hB]; simp
theorem flat_one {α : Type} {f g : Int → List α} {A B : List Int} {c : Int} (hA : ∀ x ∈ A, f x = g x) (hB : ∀ x ∈ B, f x = g x) : (A ++ c :: B).flatMap f = A.flatMap g ++ f c ++ B.flatMap g := by
 rw [List.flatMap_append, List.flatMap_cons, fm_congr hA, fm_congr hB]; simp

/-- What is known of a page when what is below one of its kids has taken a key. -/
structure Mid (t u : TreeL) (h : Nat) (i : Int) (low high : K) (j : Nat) (k : K) (row : Int) (r : Option (K × Int)) : Prop where
  hp : ∀ p ∈ t.pages, PageOk p t.pages.length
  ok : OkT t (h + 1) i low high
  nd : (ids t (h + 1) i).Nodup
  hj : j < (t.pg i).kids.length
  hk : inR (loK low (t.pg i) j) (hiK (t.pg i) j) k
  ins : Ins t u h ((t.pg i).kids.getD j 0) (loK low (t.pg i) j) (hiK (t.pg i) j) k row r
section
variable {u : TreeL} {h : Nat} {i : Int} {low high : K} {j : Nat} {k : K} {row : Int} {r : Option (K × Int)}
theorem Mid.kid (m : Mid t u h i low high j k row r) : (t.pg i).kids.getD j 0 = (t.pg i).kids[j]'m.hj := getD_kid m.hj
theorem Mid.same (m : Mid t u h i low high j k row r) : u.pg i = t.pg i := by
 have := (apart_ids m.hj m.nd).2.1
 exact m.ins.out i m.ok.idx.1 m.ok.idx.2 (by rw [m.kid]; exact this)
/-- A tree that agrees with u but for the page itself and new ones, as far as what is below is concerned. -/
structure Agrees (u v : TreeL) (i : Int) : Prop where
  le : u.pages.length ≤ v.pages.length
  pg : ∀ x : Int, 0 ≤ x → x < u.pages.length → x ≠ i → v.pg x = u.pg x
theorem Mid.others (m : Mid t u h i low high j k row r) {v : TreeL} (ha : Agrees u v i) : ∀ x ∈ (t.pg i).kids.take j ++ (t.pg i).kids.drop (j + 1), ∀ y ∈ ids t h x, v.pg y = t.pg y := fun x hx y hy => by
 obtain ⟨h1, h2⟩ := (apart_ids m.hj m.nd).2.2.1 x hx
 have hyi : y ≠ i := fun e => h2 (e ▸ hy)
 have hyr : 0 ≤ y ∧ y < t.pages.length := by
  have hm : y ∈ ids t (h + 1) i := by
   rw [ids]; refine List.mem_cons_of_mem _ (List.mem_flatMap.2 ⟨x, ?_, hy⟩)
   rcases List.mem_append.1 hx with hx | hx
   ·exact List.mem_of_mem_take hx
   ·exact List.mem_of_mem_drop hx
  exact m.ok.ids y hm
 have hle := m.ins.le
 rw [ha.pg y hyr.1 (by omega) hyi, m.ins.out y hyr.1 hyr.2 (by rw [m.kid]; exact h1 y hy)]
theorem Mid.below (m : Mid t u h i low high j k row r) {v : TreeL} (ha : Agrees u v i) : ∀ y ∈ idsR u h ((t.pg i).kids[j]'m.hj) r, 0 ≤ y → y < u.pages.length → v.pg y = u.pg y := fun y hy h0 hl => by
 refine ha.pg y h0 hl fun e => ?_
 have hs := m.ins.sub y (by rw [m.kid]; exact hy)
 rw [m.kid] at hs
 rcases hs with hs | hs
 ·exact (apart_ids m.hj m.nd).2.1 (e ▸ hs)
 ·have := m.ok.idx; omega
/-- The lists of what is below, put together. -/
theorem Mid.otherT (m : Mid t u h i low high j k row r) {v : TreeL} (ha : Agrees u v i) {x : Int} (hx : x ∈ (t.pg i).kids.take j ++ (t.pg i).kids.drop (j + 1)) : ids v h x = ids t h x ∧ ents v h x = ents t h x ∧ ∀ d, d ≤ h → lvl v d x = lvl t d x := frame h x (m.others ha x hx)
theorem Mid.okOther (m : Mid t u h i low high j k row r) {v : TreeL} (ha : Agrees u v i) {x : Int} (hx : x ∈ (t.pg i).kids.take j ++ (t.pg i).kids.drop (j + 1)) {lo hi : K} (hok : OkT t h x lo hi) : OkT v h x lo hi := by
 have := m.ins.le; have := ha.le
 exact hok.frame (by omega) (m.others ha x hx)
theorem Mid.nodupAll (m : Mid t u h i low high j k row r) : (((t.pg i).kids.take j).flatMap (ids t h) ++ idsR u h ((t.pg i).kids[j]'m.hj) r ++ ((t.pg i).kids.drop (j + 1)).flatMap (ids t h)).Nodup ∧ i ∉ ((t.pg i).kids.take j).flatMap (ids t h) ++ idsR u h ((t.pg i).kids[j]'m.hj) r ++ ((t.pg i).kids.drop (j + 1)).flatMap (ids t h) := by
 obtain ⟨a1, a2, a3, a4, a5⟩ := apart_ids m.hj m.nd
 have hnd := m.ins.nodup
 have hsub := m.ins.sub
 rw [m.kid] at hnd hsub
 have hlt : ∀ x ∈ (t.pg i).kids.take j ++ (t.pg i).kids.drop (j + 1), ∀ y ∈ ids t h x, y < t.pages.length := fun x hx y hy => by
  refine (m.ok.ids y ?_).2
  rw [ids]; refine List.mem_cons_of_mem _ (List.mem_flatMap.2 ⟨x, ?_, hy⟩)
  rcases List.mem_append.1 hx with hx | hx
  ·exact List.mem_of_mem_take hx
  ·exact List.mem_of_mem_drop hx
 have hdis : ∀ x ∈ (t.pg i).kids.take j ++ (t.pg i).kids.drop (j + 1), ∀ y ∈ ids t h x, y ∉ idsR u h ((t.pg i).kids[j]'m.hj) r := fun x hx y hy hm => by
  rcases hsub y hm with hs | hs
  ·exact (a3 x hx).1 y hy hs
  ·have := hlt x hx y hy; omega
 have hii : i ∉ idsR u h ((t.pg i).kids[j]'m.hj) r := fun hm => by
  rcases hsub i hm with hs | hs
  ·exact a2 hs
  ·have := m.ok.idx; omega
 rw [List.nodup_append] at a4
 obtain ⟨b1, b2, b3⟩ := a4
 refine ⟨?_, ?_⟩
 ·rw [List.nodup_append, List.nodup_append]
  refine ⟨⟨b1, hnd, fun a ha b hb e => ?_⟩, b2, fun a ha b hb e => ?_⟩
  ·obtain ⟨x, hx, ha⟩ := List.mem_flatMap.1 ha
   subst e; exact hdis x (List.mem_append_left _ hx) a ha hb
  ·obtain ⟨x, hx, hb'⟩ := List.mem_flatMap.1 hb
   subst e
   rcases List.mem_append.1 ha with ha | ha
   ·exact b3 a ha a hb rfl
   ·exact hdis x (List.mem_append_right _ hx) a hb' ha
 ·simp only [List.mem_append, not_or] at a5 ⊢
  exact ⟨⟨a5.1, hii⟩, a5.2⟩
theorem Mid.cntAll (m : Mid t u h i low high j k row r) : (((t.pg i).kids.take j).flatMap (ids t h) ++ idsR u h ((t.pg i).kids[j]'m.hj) r ++ ((t.pg i).kids.drop (j + 1)).flatMap (ids t h)).length + 1 + t.pages.length = (ids t (h + 1) i).length + u.pages.length := by
 have hc := m.ins.cnt
 rw [m.kid] at hc
 have e : (ids t (h + 1) i).length = 1 + ((((t.pg i).kids.take j).flatMap (ids t h)).length + ((ids t h ((t.pg i).kids[j]'m.hj)).length + (((t.pg i).kids.drop (j + 1)).flatMap (ids t h)).length)) := by
  rw [ids]
  conv => lhs; rw [split_at m.hj]
  rw [List.length_cons, List.flatMap_append, List.flatMap_cons, List.length_append, List.length_append]; omega
 rw [e, List.length_append, List.length_append]; omega
theorem Mid.subAll (m : Mid t u h i low high j k row r) : ∀ x ∈ ((t.pg i).kids.take j).flatMap (ids t h) ++ idsR u h ((t.pg i).kids[j]'m.hj) r ++ ((t.pg i).kids.drop (j + 1)).flatMap (ids t h), x ∈ ids t (h + 1) i ∨ (t.pages.length : Int) ≤ x := fun x hx => by
 have hsub := m.ins.sub
 rw [m.kid] at hsub
 have up : ∀ c ∈ (t.pg i).kids, ∀ y ∈ ids t h c, y ∈ ids t (h + 1) i := fun c hc y hy => by rw [ids]; exact List.mem_cons_of_mem _ (List.mem_flatMap.2 ⟨c, hc, hy⟩)
 rcases List.mem_append.1 hx with hx | hx
 ·rcases List.mem_append.1 hx with hx | hx
  ·obtain ⟨c, hc, hx⟩ := List.mem_flatMap.1 hx
   exact .inl (up c (List.mem_of_mem_take hc) x hx)
  ·rcases hsub x hx with hs | hs
   ·exact .inl (up _ (List.getElem_mem _) x hs)
   ·exact .inr hs
 ·obtain ⟨c, hc, hx⟩ := List.mem_flatMap.1 hx
  exact .inl (up c (List.mem_of_mem_drop hc) x hx)
theorem Mid.entsAll (m : Mid t u h i low high j k row r) (x : K × Int) : x ∈ ((t.pg i).kids.take j).flatMap (ents t h) ++ entsR u h ((t.pg i).kids[j]'m.hj) r ++ ((t.pg i).kids.drop (j + 1)).flatMap (ents t h) ↔ x = (k, row) ∨ x ∈ ents t (h + 1) i := by
 have he := m.ins.ents x
 rw [m.kid] at he
 have e : ents t (h + 1) i = ((t.pg i).kids.take j).flatMap (ents t h) ++ (ents t h ((t.pg i).kids[j]'m.hj) ++ ((t.pg i).kids.drop (j + 1)).flatMap (ents t h)) := by
  rw [ents]
  conv => lhs; rw [split_at m.hj]
  rw [List.flatMap_append, List.flatMap_cons]
 rw [e]
 simp only [List.mem_append, he]
 constructor
 ·rintro ((h | h | h) | h)
  ·exact .inr (.inl h)
  ·exact .inl h
  ·exact .inr (.inr (.inl h))
  ·exact .inr (.inr (.inr h))
 ·rintro (h | h | h | h)
  ·exact .inl (.inr (.inl h))
  ·exact .inl (.inl h)
  ·exact .inl (.inr (.inr h))
  ·exact .inr h
/-- Pages of one depth, below the page. -/
theorem Mid.segAll (m : Mid t u h i low high j k row r) {v : TreeL} (ha : Agrees u v i) {d : Nat} (hd : d ≤ h) {e : Int} (hs : Seg t (lvl t (d + 1) i) e) :
    Seg v (((t.pg i).kids.take j).flatMap (lvl t d) ++ lvlR u d ((t.pg i).kids[j]'m.hj) r ++ ((t.pg i).kids.drop (j + 1)).flatMap (lvl t d)) e ∧ (((t.pg i).kids.take j).flatMap (lvl t d) ++ lvlR u d ((t.pg i).kids[j]'m.hj) r ++ ((t.pg i).kids.drop (j + 1)).flatMap (lvl t d)).headD e = (lvl t (d + 1) i).headD e := by
  have hl : lvl t (d + 1) i = ((t.pg i).kids.take j).flatMap (lvl t d) ++ (lvl t d ((t.pg i).kids[j]'m.hj) ++ ((t.pg i).kids.drop (j + 1)).flatMap (lvl t d)) := by
    rw [lvl]
    conv => lhs; rw [split_at m.hj]
    rw [List.flatMap_append, List.flatMap_cons]
  rw [hl] at hs ⊢
  rw [seg_app, seg_app] at hs
  obtain ⟨s1, s2, s3⟩ := hs
  obtain ⟨g1, g2⟩ := m.ins.seg d hd _ (by rw [m.kid]; exact s2)
  rw [m.kid] at g1 g2
  obtain ⟨_, _, _, _, okc⟩ := m.ok
  have hne : lvl t d ((t.pg i).kids[j]'m.hj) ≠ [] := lvl_ne m.hp (okc j m.hj) d hd
  have fr : ∀ x ∈ (t.pg i).kids.take j ++ (t.pg i).kids.drop (j + 1), ∀ y ∈ lvl t d x, (v.pg y).next = (t.pg y).next := fun x hx y hy => by rw [m.others ha x hx y (lvl_ids h x d hd y hy)]
  have frR : ∀ y ∈ lvlR u d ((t.pg i).kids[j]'m.hj) r, (v.pg y).next = (u.pg y).next := fun y hy => by
    have hok := m.ins.ok
    rw [m.kid] at hok
    cases r with
    | none =>
      have hi := lvl_ids h _ d hd y hy
      have hb := OkT.ids hok y hi
      rw [m.below ha y hi hb.1 hb.2]
    | some q =>
      obtain ⟨up, kid⟩ := q
      obtain ⟨_, _, _, o1, o2⟩ := hok
      rcases List.mem_append.1 hy with hy | hy
      · have hi := lvl_ids h _ d hd y hy
        have hb := o1.ids y hi
        rw [m.below ha y (List.mem_append_left _ hi) hb.1 hb.2]
      · have hi := lvl_ids h _ d hd y hy
        have hb := o2.ids y hi
        rw [m.below ha y (List.mem_append_right _ hi) hb.1 hb.2]
  have hneR : lvlR u d ((t.pg i).kids[j]'m.hj) r ≠ [] := fun e0 => by
    have hok := m.ins.ok
    rw [m.kid] at hok
    cases r with
    | none => exact lvl_ne m.ins.page hok d hd e0
    | some q =>
      obtain ⟨up, kid⟩ := q
      exact lvl_ne m.ins.page hok.2.2.2.1 d hd (List.append_eq_nil_iff.1 e0).1
  have s1' := seg_frame (u := v) (fun y hy => by obtain ⟨x, hx, hy⟩ := List.mem_flatMap.1 hy; exact fr x (List.mem_append_left _ hx) y hy) s1
  have s3' := seg_frame (u := v) (fun y hy => by obtain ⟨x, hx, hy⟩ := List.mem_flatMap.1 hy; exact fr x (List.mem_append_right _ hx) y hy) s3
  have g1' := seg_frame (u := v) frR g1
  have hh : ∀ e' : Int, (lvlR u d ((t.pg i).kids[j]'m.hj) r).headD e' = (lvl t d ((t.pg i).kids[j]'m.hj)).headD e' := fun e' => by
    cases h1 : lvlR u d ((t.pg i).kids[j]'m.hj) r with
    | nil => exact absurd h1 hneR
    | cons a b =>
      cases h2 : lvl t d ((t.pg i).kids[j]'m.hj) with
      | nil => exact absurd h2 hne
      | cons a' b' => rw [h1, h2] at g2; exact g2
  rw [List.append_assoc]
  refine ⟨?_, ?_⟩
  · rw [seg_app, seg_app]
    refine ⟨?_, g1', s3'⟩
    rw [headD_app hneR, hh]
    rw [headD_app hne] at s1'
    exact s1'
  · cases hA : ((t.pg i).kids.take j).flatMap (lvl t d) with
    | cons a b => rfl
    | nil => rw [List.nil_append, List.nil_append, headD_app hneR, headD_app hne, hh]
end
end Go.Proofs.Ythnobhekodiciaa.Tr

namespace Go.Proofs.Ythnobhekodiciaa.Tr
open Go.Lib (compareBytes)
set_option linter.unusedVariables false
set_option linter.unusedSimpArgs false
variable {t u : TreeL} {h : Nat} {i : Int} {low high : K} {j : Nat} {k : K} {row : Int}
theorem other_mem {α : Type} {l : List α} {j j' : Nat} (hj' : j' < l.length) (hne : j' ≠ j) : l[j'] ∈ l.take j ++ l.drop (j + 1) := by
 rcases Nat.lt_or_ge j' j with h | h
 ·exact List.mem_append_left _ (List.mem_iff_getElem.2 ⟨j', by rw [List.length_take]; omega, by rw [List.getElem_take]⟩)
 ·refine List.mem_append_right _ (List.mem_iff_getElem.2 ⟨j' - (j + 1), by rw [List.length_drop]; omega, ?_⟩)
  rw [List.getElem_drop]; congr 1; omega
theorem ins_none (m : Mid t u h i low high j k row none) : Ins t u (h + 1) i low high k row none := by
 have ag : Agrees u u i := ⟨Nat.le_refl _, fun _ _ _ _ => rfl⟩
 have es := m.same
 have hiR := m.ok.idx
 obtain ⟨q1, q2, q3, q4, q5⟩ := m.ok
 have hok : OkT u h ((t.pg i).kids[j]'m.hj) (loK low (t.pg i) j) (hiK (t.pg i) j) := by have := m.ins.ok; rw [m.kid] at this; exact this
 have hids : ids u (h + 1) i = i :: (((t.pg i).kids.take j).flatMap (ids t h) ++ idsR u h ((t.pg i).kids[j]'m.hj) none ++ ((t.pg i).kids.drop (j + 1)).flatMap (ids t h)) := by
  rw [ids, es]
  conv => lhs; rw [split_at m.hj]
  rw [flat_one (fun x hx => (m.otherT ag (List.mem_append_left _ hx)).1) (fun x hx => (m.otherT ag (List.mem_append_right _ hx)).1)]; rfl
 have hents : ents u (h + 1) i = ((t.pg i).kids.take j).flatMap (ents t h) ++ entsR u h ((t.pg i).kids[j]'m.hj) none ++ ((t.pg i).kids.drop (j + 1)).flatMap (ents t h) := by
  rw [ents, es]
  conv => lhs; rw [split_at m.hj]
  rw [flat_one (fun x hx => (m.otherT ag (List.mem_append_left _ hx)).2.1) (fun x hx => (m.otherT ag (List.mem_append_right _ hx)).2.1)]; rfl
 have hlvl : ∀ d, d ≤ h → lvl u (d + 1) i = ((t.pg i).kids.take j).flatMap (lvl t d) ++ lvlR u d ((t.pg i).kids[j]'m.hj) none ++ ((t.pg i).kids.drop (j + 1)).flatMap (lvl t d) := fun d hd => by
  rw [lvl, es]
  conv => lhs; rw [split_at m.hj]
  rw [flat_one (fun x hx => (m.otherT ag (List.mem_append_left _ hx)).2.2 d hd) (fun x hx => (m.otherT ag (List.mem_append_right _ hx)).2.2 d hd)]; rfl
 have hle := m.ins.le
 have hmore := m.ins.more
 have hna := m.nodupAll
 refine ⟨hle, by omega, m.ins.root, m.ins.page, fun x h0 hx hne => ?_, ?_, ?_, ?_, ?_, ?_, ?_⟩
 ·refine m.ins.out x h0 hx fun hm => hne ?_
  rw [m.kid] at hm
  rw [ids]; exact List.mem_cons_of_mem _ (List.mem_flatMap.2 ⟨_, List.getElem_mem _, hm⟩)
 ·refine ⟨⟨hiR.1, by omega⟩, by rw [es]; exact q2, by rw [es]; exact q3, by rw [es]; exact q4, ?_⟩
  rw [es]
  intro j' hj'
  by_cases e : j' = j
  ·subst e; exact hok
  ·exact m.okOther ag (other_mem hj' e) (q5 j' hj')
 ·intro x hx
  have hx' : x ∈ ids u (h + 1) i := hx
  rw [hids] at hx'
  rcases List.mem_cons.1 hx' with rfl | hx'
  ·exact .inl (ids_head _ _)
  ·exact m.subAll x hx'
 ·show (ids u (h + 1) i).Nodup
  rw [hids, List.nodup_cons]; exact ⟨hna.2, hna.1⟩
 ·show (ids u (h + 1) i).length + _ = _
  rw [hids, List.length_cons]; exact m.cntAll
 ·intro x
  show x ∈ ents u (h + 1) i ↔ _
  rw [hents]; exact m.entsAll x
 ·intro d hd e hs
  cases d with
  | zero => exact ⟨by show (u.pg i).next = e; rw [es]; exact hs, rfl⟩
  | succ d =>
   show Seg u (lvl u (d + 1) i) e ∧ (lvl u (d + 1) i).headD e = _
   rw [hlvl d (by omega)]
   exact m.segAll ag (by omega) hs
theorem Mid.place {up : K} {kid : Int} (m : Mid t u h i low high j k row (some (up, kid))) : placeF (t.pg i) up = j ∧ up ∉ (t.pg i).keys ∧ inR low high up ∧ klt low up := by
 obtain ⟨q1, q2, q3, q4, q5⟩ := m.ok
 have po := m.hp _ (pg_mem q1)
 have hn := (po.node q2).1
 have hok := m.ins.ok
 rw [m.kid] at hok
 obtain ⟨o1, o2, o3, o4, o5⟩ := hok
 have hjl := m.hj
 have hlo : ∀ (h0 : 0 < j), klt ((t.pg i).keys[j - 1]'(by omega)) up := fun h0 => by rw [loK_pos h0 (by omega)] at o2; exact o2
 have hhi : ∀ (hl : j < (t.pg i).keys.length), klt up (t.pg i).keys[j] := fun hl => by
  rw [hiK_lt hl] at o3
  exact o3 (by intro e; have := (po.klen _ (List.getElem_mem hl)).1; rw [e] at this; simp at this)
 have hpl : placeF (t.pg i) up = j := by
  unfold placeF; rw [if_neg (by rw [q2]; decide)]
  exact upto_eq po.rise (by omega) (fun h0 => klt_as (hlo h0)) hhi
 have hlow : klt low up := by
  rcases Nat.eq_zero_or_pos j with h0 | h0
  ·rw [h0] at o2; exact o2
  ·exact lt_of_le_lt (q4 _ (List.getElem_mem (by omega : j - 1 < _))) (hlo h0)
 refine ⟨hpl, fun hm => ?_, ⟨klt_as hlow, fun hne => ?_⟩, hlow⟩
 ·obtain ⟨a, ha, e⟩ := List.mem_iff_getElem.1 hm
  rcases Nat.lt_or_ge a j with h1 | h1
  ·have h2 := hlo (by omega)
   rcases Nat.lt_or_ge a (j - 1) with h3 | h3
   ·have := klt_tr (rise_at po.rise h3 (by omega)) h2
    rw [e] at this; exact klt_irr _ this
   ·have : a = j - 1 := by omega
    subst this; rw [e] at h2; exact klt_irr _ h2
  ·have h2 := hhi (by omega)
   rcases Nat.lt_or_ge j a with h3 | h3
   ·have := klt_tr h2 (rise_at po.rise h3 ha)
    rw [e] at this; exact klt_irr _ this
   ·have : a = j := by omega
    subst this; rw [e] at h2; exact klt_irr _ h2
 ·by_cases hl : j < (t.pg i).keys.length
  ·exact klt_tr (hhi hl) (by rw [← q3]; exact po.khigh (by rw [q3]; exact hne) _ (List.getElem_mem hl))
  ·rw [hiK_end (by omega), q3] at o3; exact o3 hne
/-- What a page above the leaves is when a key and a page have come up. -/
theorem ins_some {up : K} {kid : Int} (m : Mid t u h i low high j k row (some (up, kid))) : Ins t (putT u i up kid).1 (h + 1) i low high k row (putT u i up kid).2 := by
  obtain ⟨p1, p2, p3, p4⟩ := m.place
  have es := m.same
  have hiR := m.ok.idx
  have hok := m.ins.ok
  rw [m.kid] at hok
  obtain ⟨o1, o2, o3, o4, o5⟩ := hok
  obtain ⟨q1, q2, q3, q4, q5⟩ := m.ok
  have hle := m.ins.le
  have hmore := m.ins.more
  have hiU : 0 ≤ i ∧ i < u.pages.length := ⟨hiR.1, by omega⟩
  have poT := m.hp _ (pg_mem q1)
  have po : PageOk (t.pg i) u.pages.length := poT.more (by omega)
  have hn := (po.node q2).1
  have hjl := m.hj
  have hf : FullOk (putP (t.pg i) up kid) u.pages.length := put_full po p2 o1 (by rw [q3]; exact p3.2) o5.idx.1 (fun _ => o5.idx.2)
  have hkids : (putP (t.pg i) up kid).kids = (t.pg i).kids.take j ++ ((t.pg i).kids[j]'m.hj) :: kid :: (t.pg i).kids.drop (j + 1) := by
    show insAt _ (if (t.pg i).leaf = true then _ else _) kid = _
    rw [if_neg (by rw [q2]; decide), p1]; exact insAt_split m.hj kid
  have hkeys : (putP (t.pg i) up kid).keys = insAt (t.pg i).keys j up := by
    show insAt _ _ _ = _; rw [p1]
  have hlow : ∀ x ∈ (putP (t.pg i) up kid).keys, ¬ klt x low := fun x hx => by
    rcases mem_insAt.1 hx with rfl | h
    · exact p3.1
    · exact q4 x h
  have hKT : KidsT t h low (t.pg i).kids (t.pg i).keys high := (ok_kids poT).1 m.ok |>.2.2.2.2
  -- what is below, in any tree that agrees
  have below : ∀ {v : TreeL}, Agrees u v i → (∀ x, x ∈ ids u h ((t.pg i).kids[j]'m.hj) ++ ids u h kid → v.pg x = u.pg x) := fun ag x hx => by
    refine m.below ag x hx ?_ ?_
    · rcases List.mem_append.1 hx with hx | hx
      · exact (o4.ids x hx).1
      · exact (o5.ids x hx).1
    · rcases List.mem_append.1 hx with hx | hx
      · exact (o4.ids x hx).2
      · exact (o5.ids x hx).2
  have frc : ∀ {v : TreeL}, Agrees u v i → _ := fun {v} ag => frame (t := u) (u := v) h ((t.pg i).kids[j]'m.hj) (fun x hx => below ag x (List.mem_append_left _ hx))
  have frk : ∀ {v : TreeL}, Agrees u v i → _ := fun {v} ag => frame (t := u) (u := v) h kid (fun x hx => below ag x (List.mem_append_right _ hx))
  have hKV : ∀ {v : TreeL}, Agrees u v i → KidsT v h low (putP (t.pg i) up kid).kids (putP (t.pg i) up kid).keys high := fun {v} ag => by
    have e1 : (putP (t.pg i) up kid).kids = insAt (t.pg i).kids (j + 1) kid := by rw [hkids]; exact (insAt_split m.hj kid).symm
    rw [e1, hkeys]
    refine kids_put j m.hj hKT (fun c hc lo hi hok => m.okOther ag ?_ hok) ?_ ?_
    · rcases erase_split hc with hc | hc
      · exact List.mem_append_left _ hc
      · exact List.mem_append_right _ hc
    · have := o4.frame ag.le (fun x hx => below ag x (List.mem_append_left _ hx))
      unfold loK at this; exact this
    · have := o5.frame ag.le (fun x hx => below ag x (List.mem_append_right _ hx))
      unfold hiK at this; rw [q3] at this; exact this
  have fids : ∀ {v : TreeL}, Agrees u v i → (putP (t.pg i) up kid).kids.flatMap (ids v h) = ((t.pg i).kids.take j).flatMap (ids t h) ++ idsR u h ((t.pg i).kids[j]'m.hj) (some (up, kid)) ++ ((t.pg i).kids.drop (j + 1)).flatMap (ids t h) := fun {v} ag => by
    rw [hkids, flat_kids (fun x hx => (m.otherT ag (List.mem_append_left _ hx)).1) (fun x hx => (m.otherT ag (List.mem_append_right _ hx)).1), (frc ag).1, (frk ag).1]; rfl
  have fents : ∀ {v : TreeL}, Agrees u v i → (putP (t.pg i) up kid).kids.flatMap (ents v h) = ((t.pg i).kids.take j).flatMap (ents t h) ++ entsR u h ((t.pg i).kids[j]'m.hj) (some (up, kid)) ++ ((t.pg i).kids.drop (j + 1)).flatMap (ents t h) := fun {v} ag => by
    rw [hkids, flat_kids (fun x hx => (m.otherT ag (List.mem_append_left _ hx)).2.1) (fun x hx => (m.otherT ag (List.mem_append_right _ hx)).2.1), (frc ag).2.1, (frk ag).2.1]; rfl
  have flvl : ∀ {v : TreeL}, Agrees u v i → ∀ d, d ≤ h → (putP (t.pg i) up kid).kids.flatMap (lvl v d) = ((t.pg i).kids.take j).flatMap (lvl t d) ++ lvlR u d ((t.pg i).kids[j]'m.hj) (some (up, kid)) ++ ((t.pg i).kids.drop (j + 1)).flatMap (lvl t d) := fun {v} ag d hd => by
    rw [hkids, flat_kids (fun x hx => (m.otherT ag (List.mem_append_left _ hx)).2.2 d hd) (fun x hx => (m.otherT ag (List.mem_append_right _ hx)).2.2 d hd), (frc ag).2.2 d hd, (frk ag).2.2 d hd]; rfl
  have hna := m.nodupAll
  have hcnt := m.cntAll
  have hout : ∀ x : Int, 0 ≤ x → x < t.pages.length → x ∉ ids t (h + 1) i → u.pg x = t.pg x ∧ x ≠ i := fun x h0 hx hne => by
    refine ⟨m.ins.out x h0 hx fun hm => hne ?_, fun e => hne (by rw [e]; exact ids_head _ _)⟩
    rw [m.kid] at hm
    rw [ids]; exact List.mem_cons_of_mem _ (List.mem_flatMap.2 ⟨_, List.getElem_mem _, hm⟩)
  by_cases h4 : (putP (u.pg i) up kid).keys.length ≤ 4
  · rw [putT_few h4]
    rw [es] at h4 ⊢
    have ep := set_same hiU (putP (t.pg i) up kid)
    have ag : Agrees u (u.set i (putP (t.pg i) up kid)) i := ⟨by rw [set_len]; omega, fun x h0 hx hne => set_other hiU.1 h0 (Ne.symm hne) _⟩
    have hids : ids (u.set i (putP (t.pg i) up kid)) (h + 1) i = i :: (((t.pg i).kids.take j).flatMap (ids t h) ++ idsR u h ((t.pg i).kids[j]'m.hj) (some (up, kid)) ++ ((t.pg i).kids.drop (j + 1)).flatMap (ids t h)) := by rw [ids, ep, fids ag]
    refine ⟨by rw [set_len]; omega, by rw [set_len]; omega, m.ins.root, by rw [set_len]; exact set_pages m.ins.page (hf.ok h4), fun x h0 hx hne => ?_, ?_, fun x hx => ?_, ?_, ?_, fun x => ?_, fun d hd e hs => ?_⟩
    · obtain ⟨e1, e2⟩ := hout x h0 hx hne
      rw [ag.pg x h0 (by omega) e2, e1]
    · show OkT _ (h + 1) i low high
      refine (ok_kids (n := u.pages.length) (by rw [ep]; exact hf.ok h4)).2 ?_
      rw [ep]
      exact ⟨by rw [set_len]; exact hiU, q2, q3, hlow, hKV ag⟩
    · have hx' : x ∈ ids (u.set i (putP (t.pg i) up kid)) (h + 1) i := hx
      rw [hids] at hx'
      rcases List.mem_cons.1 hx' with rfl | hx'
      · exact .inl (ids_head _ _)
      · exact m.subAll x hx'
    · show (ids _ (h + 1) i).Nodup
      rw [hids, List.nodup_cons]; exact ⟨hna.2, hna.1⟩
    · show (ids _ (h + 1) i).length + _ = _
      rw [hids, List.length_cons, set_len]; exact hcnt
    · show x ∈ ents _ (h + 1) i ↔ _
      rw [ents, ep, fents ag]; exact m.entsAll x
    · cases d with
      | zero => exact ⟨by show ((u.set i _).pg i).next = e; rw [ep]; exact hs, rfl⟩
      | succ d =>
        show Seg _ (lvl _ (d + 1) i) e ∧ (lvl _ (d + 1) i).headD e = _
        rw [lvl, ep, flvl ag d (by omega)]
        exact m.segAll ag (by omega) hs
  · have h5 : (putP (t.pg i) up kid).keys.length = 5 := by rw [es] at h4; have := hf.few; omega
    rw [putT_full h4]
    rw [es] at h4 ⊢
    have q2' : (putP (t.pg i) up kid).leaf = false := q2
    have ea := addT_same hiU (lowP (putP (t.pg i) up kid) u.pages.length) (highP (putP (t.pg i) up kid))
    have eb := addT_new u i (lowP (putP (t.pg i) up kid) u.pages.length) (highP (putP (t.pg i) up kid))
    have ag : Agrees u (addT u i (lowP (putP (t.pg i) up kid) u.pages.length) (highP (putP (t.pg i) up kid))) i := ⟨by rw [addT_len]; omega, fun x h0 hx hne => addT_other hiU.1 ⟨h0, hx⟩ (Ne.symm hne) _ _⟩
    obtain ⟨u1, u2⟩ := up_rise hf.rise h5 hlow
    have hum : upK (putP (t.pg i) up kid) ∈ (putP (t.pg i) up kid).keys := by rw [upK_at h5]; exact List.getElem_mem _
    have hlo := low_ok hf h5 (by omega)
    have hhi := high_ok (m := u.pages.length + 1) hf h5 (by omega)
    have hsp := kids_split 2 (by omega) (hKV ag)
    rw [← upK_at h5] at hsp
    have elk : (lowP (putP (t.pg i) up kid) u.pages.length).kids = (putP (t.pg i) up kid).kids.take 3 := by
      show (putP (t.pg i) up kid).kids.take (if _ then _ else _) = _; rw [if_neg (by rw [q2']; decide)]
    have ehk : (highP (putP (t.pg i) up kid)).kids = (putP (t.pg i) up kid).kids.drop 3 := by
      show (putP (t.pg i) up kid).kids.drop (if _ then _ else _) = _; rw [if_neg (by rw [q2']; decide)]
    have ehy : (highP (putP (t.pg i) up kid)).keys = (putP (t.pg i) up kid).keys.drop 3 := by
      show (putP (t.pg i) up kid).keys.drop (if _ then _ else _) = _; rw [if_neg (by rw [q2']; decide)]
    have parts : ∀ {α : Type} (f : Int → List α), ((putP (t.pg i) up kid).kids.take 3).flatMap f ++ ((putP (t.pg i) up kid).kids.drop 3).flatMap f = (putP (t.pg i) up kid).kids.flatMap f := fun f => by rw [← List.flatMap_append, List.take_append_drop]
    have hids : idsR (addT u i (lowP (putP (t.pg i) up kid) u.pages.length) (highP (putP (t.pg i) up kid))) (h + 1) i (some (upK (putP (t.pg i) up kid), (u.pages.length : Int))) = (i :: ((putP (t.pg i) up kid).kids.take 3).flatMap (ids (addT u i (lowP (putP (t.pg i) up kid) u.pages.length) (highP (putP (t.pg i) up kid))) h)) ++ ((u.pages.length : Int) :: ((putP (t.pg i) up kid).kids.drop 3).flatMap (ids (addT u i (lowP (putP (t.pg i) up kid) u.pages.length) (highP (putP (t.pg i) up kid))) h)) := by
      show ids _ (h + 1) i ++ ids _ (h + 1) _ = _
      rw [ids, ids, ea, eb, elk, ehk]
    have pid := (parts (ids (addT u i (lowP (putP (t.pg i) up kid) u.pages.length) (highP (putP (t.pg i) up kid))) h)).trans (fids ag)
    have hnew : ∀ x ∈ ((t.pg i).kids.take j).flatMap (ids t h) ++ idsR u h ((t.pg i).kids[j]'m.hj) (some (up, kid)) ++ ((t.pg i).kids.drop (j + 1)).flatMap (ids t h), x < u.pages.length := fun x hx => by
      rcases List.mem_append.1 hx with hx | hx
      · rcases List.mem_append.1 hx with hx | hx
        · obtain ⟨c, hc, hx⟩ := List.mem_flatMap.1 hx
          obtain ⟨a, ha, rfl⟩ := List.mem_iff_getElem.1 (List.mem_of_mem_take hc)
          have := (q5 a ha).ids x hx; omega
        · rcases List.mem_append.1 hx with hx | hx
          · exact (o4.ids x hx).2
          · exact (o5.ids x hx).2
      · obtain ⟨c, hc, hx⟩ := List.mem_flatMap.1 hx
        obtain ⟨a, ha, rfl⟩ := List.mem_iff_getElem.1 (List.mem_of_mem_drop hc)
        have := (q5 a ha).ids x hx; omega
    refine ⟨by rw [addT_len]; omega, by rw [addT_len]; omega, m.ins.root, ?_, fun x h0 hx hne => ?_, ⟨hf.klen _ hum, u1, fun hne => ?_, ?_, ?_⟩, fun x hx => ?_, ?_, ?_, fun x => ?_, fun d hd e hs => ?_⟩
    · rw [addT_len]; exact addT_pages m.ins.page (by omega) hlo hhi
    · obtain ⟨e1, e2⟩ := hout x h0 hx hne
      rw [ag.pg x h0 (by omega) e2, e1]
    · have := hf.khigh (by show (t.pg i).high ≠ []; rw [q3]; exact hne) _ hum
      rw [← q3]; exact this
    · refine (ok_kids (n := (u.pages.length : Int) + 1) (by rw [ea]; exact hlo)).2 ?_
      rw [ea, elk]
      exact ⟨by rw [addT_len]; omega, q2', rfl, fun x hx => hlow x (List.mem_of_mem_take hx), hsp.1⟩
    · refine (ok_kids (n := (u.pages.length : Int) + 1) (by rw [eb]; exact hhi)).2 ?_
      rw [eb, ehk, ehy]
      refine ⟨by rw [addT_len]; omega, q2', q3, fun x hx => u2 x ?_, hsp.2⟩
      rw [show 3 = 2 + 1 from rfl, ← List.drop_drop] at hx
      exact List.mem_of_mem_drop hx
    · rw [hids] at hx
      have hall : x = i ∨ x = (u.pages.length : Int) ∨ x ∈ ((putP (t.pg i) up kid).kids.take 3).flatMap (ids (addT u i (lowP (putP (t.pg i) up kid) u.pages.length) (highP (putP (t.pg i) up kid))) h) ++ ((putP (t.pg i) up kid).kids.drop 3).flatMap (ids (addT u i (lowP (putP (t.pg i) up kid) u.pages.length) (highP (putP (t.pg i) up kid))) h) := by
        rcases List.mem_append.1 hx with hx | hx
        · rcases List.mem_cons.1 hx with h | h
          · exact .inl h
          · exact .inr (.inr (List.mem_append_left _ h))
        · rcases List.mem_cons.1 hx with h | h
          · exact .inr (.inl h)
          · exact .inr (.inr (List.mem_append_right _ h))
      rw [pid] at hall
      rcases hall with rfl | rfl | hx
      · exact .inl (ids_head _ _)
      · exact .inr (by omega)
      · exact m.subAll x hx
    · rw [hids]
      have hnd := hna.1
      rw [← pid, List.nodup_append] at hnd
      have hni := hna.2
      rw [← pid] at hni
      simp only [List.mem_append, not_or] at hni
      have hnn : ∀ x ∈ ((putP (t.pg i) up kid).kids.take 3).flatMap (ids (addT u i (lowP (putP (t.pg i) up kid) u.pages.length) (highP (putP (t.pg i) up kid))) h) ++ ((putP (t.pg i) up kid).kids.drop 3).flatMap (ids (addT u i (lowP (putP (t.pg i) up kid) u.pages.length) (highP (putP (t.pg i) up kid))) h), x < u.pages.length := fun x hx => hnew x (by rw [← pid]; exact hx)
      rw [List.nodup_append, List.nodup_cons, List.nodup_cons]
      refine ⟨⟨hni.1, hnd.1⟩, ⟨fun hm => ?_, hnd.2.1⟩, fun a ha b hb e => ?_⟩
      · have := hnn _ (List.mem_append_right _ hm); omega
      · subst e
        rcases List.mem_cons.1 ha with rfl | ha
        · rcases List.mem_cons.1 hb with hb | hb
          · omega
          · exact hni.2 hb
        · rcases List.mem_cons.1 hb with rfl | hb
          · have := hnn _ (List.mem_append_left _ ha); omega
          · exact hnd.2.2 a ha a hb rfl
    · rw [hids, addT_len]
      have := congrArg List.length pid
      rw [List.length_append] at this
      rw [List.length_append, List.length_cons, List.length_cons]; omega
    · show x ∈ ents _ (h + 1) i ++ ents _ (h + 1) _ ↔ _
      rw [ents, ents, ea, eb, elk, ehk, parts, fents ag]; exact m.entsAll x
    · cases d with
      | zero =>
        refine ⟨?_, rfl⟩
        show ((addT u i _ _).pg i).next = _ ∧ ((addT u i _ _).pg _).next = e
        rw [ea, eb]
        exact ⟨rfl, hs⟩
      | succ d =>
        show Seg _ (lvl _ (d + 1) i ++ lvl _ (d + 1) _) e ∧ (lvl _ (d + 1) i ++ lvl _ (d + 1) _).headD e = _
        rw [lvl, lvl, ea, eb, elk, ehk, parts, flvl ag d (by omega)]
        exact m.segAll ag (by omega) hs
/-- A key is put in below a page. -/
theorem ins_ok : ∀ {h : Nat} {t : TreeL} (hp : ∀ p ∈ t.pages, PageOk p t.pages.length) {i : Int} {low high : K} (ok : OkT t h i low high) (nd : (ids t h i).Nodup) {k : K} {row : Int} (hk : inR low high k) (hn : ∀ x ∈ ents t h i, x.1 ≠ k) (hl : 1 ≤ k.length ∧ k.length ≤ 100) (hr : 0 ≤ row), Ins t (insR t k row h i).1 h i low high k row (insR t k row h i).2
  | 0, t, hp, i, low, high, ok, nd, k, row, hk, hn, hl, hr => ins_leaf hp ok hk hn hl hr
  | h + 1, t, hp, i, low, high, ok, nd, k, row, hk, hn, hl, hr => by
    obtain ⟨q1, q2, q3, q4, q5⟩ := id ok
    have po := hp _ (pg_mem q1)
    obtain ⟨d1, d2⟩ := down po q2 q3 hk
    have nd' := (apart_ids d1 nd).1
    have ih := ins_ok (h := h) hp (q5 _ d1) nd' d2 (fun x hx => hn x (by rw [ents]; exact List.mem_flatMap.2 ⟨_, List.getElem_mem d1, hx⟩)) hl hr
    rw [← getD_kid d1] at ih
    rw [insR]
    generalize insR t k row h ((t.pg i).kids.getD (placeF (t.pg i) k) 0) = R at ih
    obtain ⟨u, r⟩ := R
    have m : Mid t u h i low high (placeF (t.pg i) k) k row r := ⟨hp, ok, nd, d1, d2, ih⟩
    cases r with
    | none => exact ins_none m
    | some q => obtain ⟨up, kid⟩ := q; exact ins_some m
end Go.Proofs.Ythnobhekodiciaa.Tr

namespace Go.Proofs.Ythnobhekodiciaa.Tr
open Go.Lib (compareBytes)
set_option linter.unusedVariables false
set_option linter.unusedSimpArgs false
variable {t : TreeL} {h : Nat} {k : K} {row : Int}
/-- The entries of a tree. -/
def allE (t : TreeL) (h : Nat) : List (K × Int) := ents t h t.root
def insT (t : TreeL) (h : Nat) (k : K) (row : Int) : TreeL := rootT (insR t k row h t.root)
def addRoot (u : TreeL) (up : K) (kid : Int) : TreeL := ⟨u.pages ++ [⟨false, [up], [u.root, kid], [], -1⟩], u.pages.length⟩
theorem root_len (u : TreeL) (up : K) (kid : Int) : (addRoot u up kid).pages.length = u.pages.length + 1 := by simp [addRoot]
theorem root_new (u : TreeL) (up : K) (kid : Int) : (addRoot u up kid).pg u.pages.length = ⟨false, [up], [u.root, kid], [], -1⟩ := by
 unfold TreeL.pg addRoot
 rw [List.getD_eq_getElem?_getD, List.getElem?_append_right (by omega)]; simp
theorem root_old {u : TreeL} {x : Int} (hx : 0 ≤ x ∧ x < u.pages.length) (up : K) (kid : Int) : (addRoot u up kid).pg x = u.pg x := by
 unfold TreeL.pg addRoot
 rw [List.getD_eq_getElem?_getD, List.getD_eq_getElem?_getD, List.getElem?_append_left (by omega)]
theorem Valid.range (v : Valid t h) : 0 ≤ t.root ∧ t.root < t.pages.length := v.ok.idx
/-- How high a tree is: it has more pages. -/
theorem ids_more (hp : ∀ p ∈ t.pages, PageOk p t.pages.length) : ∀ {h : Nat} {i : Int} {low high : K}, OkT t h i low high → h + 1 ≤ (ids t h i).length
  | 0, _, _, _, _ => by simp [ids]
  | h + 1, i, low, high, ⟨q1, q2, q3, q4, q5⟩ => by
    have po := hp _ (pg_mem q1)
    have hn := (po.node q2).1
    have h0 : 0 < (t.pg i).kids.length := by omega
    have := ids_more hp (q5 0 h0)
    rw [ids, List.length_cons, split_at h0, List.flatMap_append, List.flatMap_cons, List.length_append, List.length_append]; omega
theorem Valid.high (v : Valid t h) : h < t.pages.length := by
 have := ids_more v.page v.ok
 rw [v.all] at this; omega
/-- A key that is not there is put in. -/
theorem ins_valid (v : Valid t h) (hn : ∀ x ∈ allE t h, x.1 ≠ k) (hl : 1 ≤ k.length ∧ k.length ≤ 100) (hr : 0 ≤ row) (hm : t.pages.length + (h + 2) ≤ 4000) :
    ∃ h', (h ≤ h' ∧ h' ≤ h + 1) ∧ Valid (insT t h k row) h' ∧ (t.pages.length ≤ (insT t h k row).pages.length ∧ (insT t h k row).pages.length ≤ t.pages.length + (h + 2)) ∧ ∀ x, x ∈ allE (insT t h k row) h' ↔ x = (k, row) ∨ x ∈ allE t h := by
  have I := ins_ok v.page v.ok v.once (inR_all k) hn hl hr
  unfold insT
  generalize insR t k row h t.root = R at I
  obtain ⟨u, r⟩ := R
  have hle : t.pages.length ≤ u.pages.length := I.le
  have hmore : u.pages.length ≤ t.pages.length + (h + 1) := I.more
  have hcnt : (idsR u h t.root r).length + t.pages.length = (ids t h t.root).length + u.pages.length := I.cnt
  rw [v.all] at hcnt
  have hpos := v.pos
  have hroot : u.root = t.root := I.root
  cases r with
  | none =>
    refine ⟨h, ⟨Nat.le_refl _, by omega⟩, ⟨by show 1 ≤ u.pages.length; omega, by show u.pages.length ≤ 4000; omega, I.page, ?_, ?_, ?_, fun d hd => ?_⟩, ⟨hle, by show u.pages.length ≤ _; omega⟩, fun x => ?_⟩
    · show OkT u h u.root [] []; rw [hroot]; exact I.ok
    · show (ids u h u.root).Nodup; rw [hroot]; exact I.nodup
    · show (ids u h u.root).length = u.pages.length
      rw [hroot]; have : (ids u h t.root).length + t.pages.length = t.pages.length + u.pages.length := hcnt; omega
    · show Seg u (lvl u d u.root) (-1); rw [hroot]; exact (I.seg d hd (-1) (v.seg d hd)).1
    · show x ∈ ents u h u.root ↔ _; rw [hroot]; exact I.ents x
  | some q =>
    obtain ⟨up, kid⟩ := q
    obtain ⟨o1, o2, o3, o4, o5⟩ : (1 ≤ up.length ∧ up.length ≤ 100) ∧ klt [] up ∧ (([] : K) ≠ [] → klt up []) ∧ OkT u h t.root [] up ∧ OkT u h kid up [] := I.ok
    have ho : ∀ x ∈ ids u h t.root ++ ids u h kid, (addRoot u up kid).pg x = u.pg x := fun x hx => by
      refine root_old ?_ up kid
      rcases List.mem_append.1 hx with hx | hx
      · exact o4.ids x hx
      · exact o5.ids x hx
    have f1 := frame (t := u) (u := addRoot u up kid) h t.root (fun x hx => ho x (List.mem_append_left _ hx))
    have f2 := frame (t := u) (u := addRoot u up kid) h kid (fun x hx => ho x (List.mem_append_right _ hx))
    have g1 : OkT (addRoot u up kid) h t.root [] up := o4.frame (by rw [root_len]; omega) (fun x hx => ho x (List.mem_append_left _ hx))
    have g2 : OkT (addRoot u up kid) h kid up [] := o5.frame (by rw [root_len]; omega) (fun x hx => ho x (List.mem_append_right _ hx))
    have en := root_new u up kid
    rw [hroot] at en
    have hnd := I.nodup
    have hids : ids (addRoot u up kid) (h + 1) u.pages.length = (u.pages.length : Int) :: (ids u h t.root ++ ids u h kid) := by
      rw [ids, en]
      show _ :: ([t.root, kid].flatMap (ids (addRoot u up kid) h)) = _
      rw [List.flatMap_cons, List.flatMap_cons, List.flatMap_nil, List.append_nil, f1.1, f2.1]
    have hpn : PageOk (⟨false, [up], [t.root, kid], [], -1⟩ : PgL) (u.pages.length + 1 : Nat) := by
      have i1 := o4.idx; have i2 := o5.idx
      refine ⟨by simp, by simp, by simp, by simp; omega, by simp, (fun h => by cases h), fun _ => ⟨rfl, by simp⟩, fun x hx => ?_, fun h => absurd rfl h, by simp, fun x hx => ?_, fun _ x hx => ?_⟩
      · have : x = up := by simpa using hx
        subst this; exact o1
      · have : x = t.root ∨ x = kid := by simpa using hx
        rcases this with rfl | rfl
        · exact i1.1
        · exact i2.1
      · have : x = t.root ∨ x = kid := by simpa using hx
        rcases this with rfl | rfl <;> omega
    refine ⟨h + 1, ⟨by omega, by omega⟩, ⟨?_, ?_, ?_, ?_, ?_, ?_, fun d hd => ?_⟩, ⟨?_, ?_⟩, fun x => ?_⟩
    · show 1 ≤ (addRoot u up kid).pages.length; rw [root_len]; omega
    · show (addRoot u up kid).pages.length ≤ 4000; rw [root_len]; omega
    · show ∀ p ∈ (addRoot u up kid).pages, PageOk p (addRoot u up kid).pages.length
      rw [root_len]
      intro p hp
      rcases List.mem_append.1 hp with hp | hp
      · have hp' : PageOk p u.pages.length := I.page p hp
        exact hp'.more (by omega)
      · rw [List.mem_singleton] at hp; subst hp; rw [hroot]; exact hpn
    · show OkT (addRoot u up kid) (h + 1) u.pages.length [] []
      refine (ok_kids (n := (u.pages.length + 1 : Nat)) (by rw [en]; exact hpn)).2 ?_
      rw [en]
      refine ⟨by rw [root_len]; omega, rfl, rfl, fun x _ => cb_nil x, ?_⟩
      rw [kids_cons, kids_one]; exact ⟨g1, g2⟩
    · show (ids (addRoot u up kid) (h + 1) u.pages.length).Nodup
      rw [hids, List.nodup_cons]
      refine ⟨fun hm => ?_, hnd⟩
      rcases List.mem_append.1 hm with hm | hm
      · have := o4.ids _ hm; omega
      · have := o5.ids _ hm; omega
    · show (ids (addRoot u up kid) (h + 1) u.pages.length).length = (addRoot u up kid).pages.length
      rw [hids, root_len, List.length_cons]
      have : (ids u h t.root ++ ids u h kid).length + t.pages.length = t.pages.length + u.pages.length := hcnt
      omega
    · show Seg (addRoot u up kid) (lvl (addRoot u up kid) d u.pages.length) (-1)
      cases d with
      | zero => show ((addRoot u up kid).pg u.pages.length).next = -1; rw [en]
      | succ d =>
        rw [lvl, en]
        show Seg _ ([t.root, kid].flatMap (lvl (addRoot u up kid) d)) (-1)
        rw [List.flatMap_cons, List.flatMap_cons, List.flatMap_nil, List.append_nil, f1.2.2 d (by omega), f2.2.2 d (by omega)]
        refine seg_frame (fun x hx => ?_) (I.seg d (by omega) (-1) (v.seg d (by omega))).1
        have hx' : x ∈ lvl u d t.root ++ lvl u d kid := hx
        rw [ho x ?_]
        rcases List.mem_append.1 hx' with hx' | hx'
        · exact List.mem_append_left _ (lvl_ids h _ d (by omega) x hx')
        · exact List.mem_append_right _ (lvl_ids h _ d (by omega) x hx')
    · show t.pages.length ≤ (addRoot u up kid).pages.length; rw [root_len]; omega
    · show (addRoot u up kid).pages.length ≤ _; rw [root_len]; omega
    · show x ∈ ents (addRoot u up kid) (h + 1) u.pages.length ↔ _
      rw [ents, en]
      show x ∈ [t.root, kid].flatMap (ents (addRoot u up kid) h) ↔ _
      rw [List.flatMap_cons, List.flatMap_cons, List.flatMap_nil, List.append_nil, f1.2.1, f2.2.1]
      exact I.ents x
theorem new_valid : Valid newT 0 := by
 refine ⟨by decide, by decide, fun p hp => ?_, ⟨by decide, rfl, rfl, fun k hk => by cases hk⟩, by simp [ids], rfl, fun d hd => ?_⟩
 ·have : p = ⟨true, [], [], [], -1⟩ := by simpa [newT] using hp
  subst this
  exact ⟨by simp, by simp, by simp, by simp [newT], by simp, fun _ => rfl, (fun h => by cases h), (fun k hk => by cases hk), (fun h => absurd rfl h), by simp, (fun n hn => by cases hn), (fun h => by cases h)⟩
 ·obtain rfl : d = 0 := by omega
  rfl
/-! ### Found -/
/-- A leaf's entry, at a place. -/
theorem pageE_at {p : PgL} (hl : p.kids.length = p.keys.length) {a : Nat} (ha : a < p.keys.length) : (pageE p)[a]'(by unfold pageE; rw [List.length_zip]; omega) = (p.keys[a], p.kids[a]'(by omega)) := by unfold pageE; rw [List.getElem_zip]
theorem pageE_mem {p : PgL} (hl : p.kids.length = p.keys.length) {x : K × Int} : x ∈ pageE p ↔ ∃ a, ∃ (ha : a < p.keys.length), x = (p.keys[a], p.kids[a]'(by omega)) := by
 constructor
 ·intro h
  obtain ⟨a, ha, e⟩ := List.mem_iff_getElem.1 h
  have ha' : a < p.keys.length := by unfold pageE at ha; rw [List.length_zip] at ha; omega
  exact ⟨a, ha', by rw [← e, pageE_at hl ha']⟩
 ·rintro ⟨a, ha, rfl⟩
  exact List.mem_iff_getElem.2 ⟨a, by unfold pageE; rw [List.length_zip]; omega, pageE_at hl ha⟩
def thereF (t : TreeL) (k : K) (h : Nat) : Prop := ∃ (ha : placeF (t.pg (leafF t k h t.root)) k < (t.pg (leafF t k h t.root)).keys.length), (t.pg (leafF t k h t.root)).keys[placeF (t.pg (leafF t k h t.root)) k] = k
theorem Valid.leaf (v : Valid t h) (k : K) : (0 ≤ leafF t k h t.root ∧ leafF t k h t.root < t.pages.length) ∧ (t.pg (leafF t k h t.root)).leaf = true := by
 obtain ⟨_, _, _, _, _, _, _, h3, _⟩ := leaf_cut v.page v.ok (inR_all k)
 exact ⟨h3.1, h3.2.1⟩
/-- What stands in the leaf of a key: just what the tree has of it. -/
theorem found (v : Valid t h) (k : K) (row : Int) : (k, row) ∈ allE t h ↔ ∃ (ha : placeF (t.pg (leafF t k h t.root)) k < (t.pg (leafF t k h t.root)).keys.length), (t.pg (leafF t k h t.root)).keys[placeF (t.pg (leafF t k h t.root)) k] = k ∧ (t.pg (leafF t k h t.root)).kids.getD (placeF (t.pg (leafF t k h t.root)) k) 0 = row := by
  obtain ⟨pre, post, lo, hi, e, h1, h2, h3, h4⟩ := leaf_cut v.page v.ok (inR_all k)
  have po := v.page _ (pg_mem h3.1)
  have hlf := h3.2.1
  have hlen := po.leaf hlf
  unfold allE
  rw [ents_lvl, e, List.flatMap_append, List.flatMap_cons]
  generalize hgp : t.pg (leafF t k h t.root) = p at *
  have hpl : placeF p k = downN p.keys k := by unfold placeF; rw [if_pos hlf]
  rw [hpl]
  simp only [List.mem_append]
  constructor
  · rintro (hx | hx | hx)
    · obtain ⟨l, hl, hx⟩ := List.mem_flatMap.1 hx
      exact absurd (h1 l hl _ hx) (klt_irr k)
    · obtain ⟨a, ha, e2⟩ := (pageE_mem hlen).1 hx
      injection e2 with e3 e4
      have : downN p.keys k = a := by
        rcases Nat.lt_trichotomy (downN p.keys k) a with h5 | h5 | h5
        · exfalso
          have := downN_end (keys := p.keys) (k := k) (by omega)
          have h6 := rise_at po.rise h5 ha
          rw [← e3] at h6; exact this h6
        · exact h5
        · have := (downN_at h5).2
          rw [← e3] at this; exact absurd this (klt_irr k)
      subst this
      exact ⟨ha, e3.symm, by rw [List.getD_eq_getElem?_getD, List.getElem?_eq_getElem (by omega)]; exact e4.symm⟩
    · obtain ⟨l, hl, hx⟩ := List.mem_flatMap.1 hx
      exact absurd (h2 l hl _ hx) (klt_irr k)
  · rintro ⟨ha, e1, e2⟩
    refine .inr (.inl ((pageE_mem hlen).2 ⟨_, ha, ?_⟩))
    rw [List.getD_eq_getElem?_getD, List.getElem?_eq_getElem (by omega)] at e2
    rw [e1]; congr 1; exact e2.symm
theorem there_iff (v : Valid t h) (k : K) : thereF t k h ↔ ∃ row, (k, row) ∈ allE t h := by
 constructor
 ·rintro ⟨ha, e⟩; exact ⟨_, (found v k _).2 ⟨ha, e, rfl⟩⟩
 ·rintro ⟨row, hr⟩
  obtain ⟨ha, e, _⟩ := (found v k row).1 hr
  exact ⟨ha, e⟩
/-! ### Taken out -/
def cutP (p : PgL) (a : Nat) : PgL := { p with keys := p.keys.eraseIdx a, kids := p.kids.eraseIdx a }
def delT (t : TreeL) (h : Nat) (k : K) : TreeL := t.set (leafF t k h t.root) (cutP (t.pg (leafF t k h t.root)) (placeF (t.pg (leafF t k h t.root)) k))
theorem cut_ok {p : PgL} {n : Int} (hp : PageOk p n) (hl : p.leaf = true) {a : Nat} (ha : a < p.keys.length) : PageOk (cutP p a) n := by
 have hlen := hp.leaf hl
 refine ⟨?_, hp.hlen, hp.nlow, hp.nhigh, hp.nend, fun _ => ?_, fun h => ?_, fun k hk => hp.klen k ((List.eraseIdx_sublist _ _).subset hk), fun hne k hk => hp.khigh hne k ((List.eraseIdx_sublist _ _).subset hk), hp.rise.sublist (List.eraseIdx_sublist _ _), fun x hx => hp.kid x ((List.eraseIdx_sublist _ _).subset hx), fun h => ?_⟩
 ·show (p.keys.eraseIdx a).length ≤ 4; rw [List.length_eraseIdx_of_lt ha]; have := hp.few; omega
 ·show (p.kids.eraseIdx a).length = (p.keys.eraseIdx a).length
  rw [List.length_eraseIdx_of_lt ha, List.length_eraseIdx_of_lt (by omega), hlen]
 ·have : p.leaf = false := h
  rw [hl] at this; cases this
 ·have : p.leaf = false := h
  rw [hl] at this; cases this
theorem zip_erase {α β : Type} : ∀ {a : List α} {b : List β} {n : Nat}, (a.eraseIdx n).zip (b.eraseIdx n) = (a.zip b).eraseIdx n
 | [], _, n => by simp
 | _ :: _, [], n => by cases n <;> simp
 | x :: a, y :: b, 0 => by simp
 | x :: a, y :: b, n + 1 => by simp [zip_erase (a := a) (b := b) (n := n)]
/-- A leaf's page set: what the tree looks like then. -/
theorem set_leaf {q : PgL} {l : Int} (hq : q.leaf = true) (hh : q.high = (t.pg l).high) (hx : q.next = (t.pg l).next) (hl : 0 ≤ l ∧ l < t.pages.length) (hlf : (t.pg l).leaf = true) (hks : ∀ k ∈ q.keys, k ∈ (t.pg l).keys) : ∀ {h : Nat} {i : Int} {low high : K}, OkT t h i low high →
    OkT (t.set l q) h i low high ∧ ids (t.set l q) h i = ids t h i ∧ ∀ d, d ≤ h → lvl (t.set l q) d i = lvl t d i
  | 0, i, low, high, ⟨q1, q2, q3, q4⟩ => by
    refine ⟨?_, rfl, fun d hd => by obtain rfl : d = 0 := by omega
                                    rfl⟩
    by_cases e : l = i
    · subst e
      rw [OkT, set_same hl, set_len]
      exact ⟨q1, hq, by rw [hh]; exact q3, fun k hk => q4 k (hks k hk)⟩
    · rw [OkT, set_other hl.1 q1.1 e, set_len]; exact ⟨q1, q2, q3, q4⟩
  | h + 1, i, low, high, ⟨q1, q2, q3, q4, q5⟩ => by
    have e : l ≠ i := fun e => by rw [e, q2] at hlf; cases hlf
    have es := set_other (t := t) hl.1 q1.1 e q
    have ih := fun j (hj : j < (t.pg i).kids.length) => set_leaf hq hh hx hl hlf hks (q5 j hj)
    refine ⟨?_, ?_, fun d hd => ?_⟩
    · rw [OkT, es, set_len]; exact ⟨q1, q2, q3, q4, fun j hj => (ih j hj).1⟩
    · rw [ids, ids, es]
      congr 1
      refine fm_congr fun c hc => ?_
      obtain ⟨j, hj, rfl⟩ := List.mem_iff_getElem.1 hc
      exact (ih j hj).2.1
    · cases d with
      | zero => rfl
      | succ d =>
        rw [lvl, lvl, es]
        refine fm_congr fun c hc => ?_
        obtain ⟨j, hj, rfl⟩ := List.mem_iff_getElem.1 hc
        exact (ih j hj).2.2 d (by omega)
theorem del_valid (v : Valid t h) (ht : thereF t k h) : Valid (delT t h k) h ∧ (delT t h k).pages.length = t.pages.length ∧ ∀ x, x ∈ allE (delT t h k) h ↔ x ∈ allE t h ∧ x.1 ≠ k := by
 obtain ⟨ha, hk⟩ := ht
 obtain ⟨hl, hlf⟩ := v.leaf k
 have po := v.page _ (pg_mem hl)
 have hq := cut_ok po hlf ha
 have hlen := po.leaf hlf
 have S := fun {i : Int} {low high : K} (ok : OkT t h i low high) => set_leaf (t := t) (q := cutP (t.pg (leafF t k h t.root)) (placeF (t.pg (leafF t k h t.root)) k)) (l := leafF t k h t.root) hlf rfl rfl hl hlf (fun k hk => (List.eraseIdx_sublist _ _).subset hk) ok
 obtain ⟨s1, s2, s3⟩ := S v.ok
 have hle : (delT t h k).pages.length = t.pages.length := set_len _ _ _
 refine ⟨⟨by rw [hle]; exact v.pos, by rw [hle]; exact v.most, ?_, s1, ?_, ?_, fun d hd => ?_⟩, hle, fun x => ?_⟩
 ·rw [hle]; exact set_pages v.page hq
 ·show (ids (delT t h k) h t.root).Nodup
  unfold delT; rw [s2]; exact v.once
 ·show (ids (delT t h k) h t.root).length = _
  rw [hle]; unfold delT; rw [s2]; exact v.all
 ·show Seg (delT t h k) (lvl (delT t h k) d t.root) (-1)
  unfold delT
  rw [s3 d hd]
  refine seg_frame (fun y hy => ?_) (v.seg d hd)
  have hyr := v.ok.ids y (lvl_ids h _ d hd y hy)
  by_cases e : leafF t k h t.root = y
  ·rw [← e, set_same hl]; rfl
  ·rw [set_other hl.1 hyr.1 e]
 ·obtain ⟨pre, post, lo, hi, e, h1, h2, h3, h4⟩ := leaf_cut v.page v.ok (inR_all k)
  have hlv : (lvl t h t.root).Nodup → leafF t k h t.root ∉ pre ∧ leafF t k h t.root ∉ post := fun hn => by
   rw [e, List.nodup_append, List.nodup_cons] at hn
   exact ⟨fun hm => hn.2.2 _ hm _ (List.mem_cons_self) rfl, hn.2.1.1⟩
  have hlo : ∀ y ∈ pre, pageE ((delT t h k).pg y) = pageE (t.pg y) ∨ y = leafF t k h t.root := fun y hy => by
   by_cases e' : leafF t k h t.root = y
   ·exact .inr e'.symm
   ·left
    have hyr := v.ok.ids y (lvl_ids h _ h (Nat.le_refl _) y (by rw [e]; exact List.mem_append_left _ hy))
    unfold delT; rw [set_other hl.1 hyr.1 e']
  have hpo : ∀ y ∈ post, pageE ((delT t h k).pg y) = pageE (t.pg y) ∨ y = leafF t k h t.root := fun y hy => by
   by_cases e' : leafF t k h t.root = y
   ·exact .inr e'.symm
   ·left
    have hyr := v.ok.ids y (lvl_ids h _ h (Nat.le_refl _) y (by rw [e]; exact List.mem_append_right _ (List.mem_cons_of_mem _ hy)))
    unfold delT; rw [set_other hl.1 hyr.1 e']
  have hmem : (k, (t.pg (leafF t k h t.root)).kids.getD (placeF (t.pg (leafF t k h t.root)) k) 0) ∈ pageE (t.pg (leafF t k h t.root)) := (pageE_mem hlen).2 ⟨_, ha, by rw [hk, List.getD_eq_getElem?_getD, List.getElem?_eq_getElem (by omega)]; rfl⟩
  have npre : leafF t k h t.root ∉ pre := fun hm => absurd (h1 _ hm _ hmem) (klt_irr k)
  have npost : leafF t k h t.root ∉ post := fun hm => absurd (h2 _ hm _ hmem) (klt_irr k)
  have ed : pageE ((delT t h k).pg (leafF t k h t.root)) = (pageE (t.pg (leafF t k h t.root))).eraseIdx (placeF (t.pg (leafF t k h t.root)) k) := by
   unfold delT
   rw [set_same hl]; exact zip_erase
  have fe : ∀ {A : List Int}, (∀ y ∈ A, pageE ((delT t h k).pg y) = pageE (t.pg y) ∨ y = leafF t k h t.root) → leafF t k h t.root ∉ A → A.flatMap (fun l => pageE ((delT t h k).pg l)) = A.flatMap (fun l => pageE (t.pg l)) := fun {A} hA hn => fm_congr fun y hy => (hA y hy).resolve_right fun e' => hn (e' ▸ hy)
  have herase : ∀ x : K × Int, x ∈ (pageE (t.pg (leafF t k h t.root))).eraseIdx (placeF (t.pg (leafF t k h t.root)) k) ↔ x ∈ pageE (t.pg (leafF t k h t.root)) ∧ x.1 ≠ k := fun x => by
   rw [List.mem_eraseIdx_iff_getElem]
   constructor
   ·rintro ⟨a, ha', hne, rfl⟩
    refine ⟨List.getElem_mem _, fun hc => hne ?_⟩
    have hal : a < (t.pg (leafF t k h t.root)).keys.length := by unfold pageE at ha'; rw [List.length_zip] at ha'; omega
    rw [pageE_at hlen hal] at hc
    have hc : (t.pg (leafF t k h t.root)).keys[a] = k := hc
    rcases Nat.lt_trichotomy a (placeF (t.pg (leafF t k h t.root)) k) with h5 | h5 | h5
    ·have := rise_at po.rise h5 ha; rw [hc, hk] at this; exact absurd this (klt_irr k)
    ·exact h5
    ·have := rise_at po.rise h5 hal; rw [hc, hk] at this; exact absurd this (klt_irr k)
   ·rintro ⟨hx, hne⟩
    obtain ⟨a, hal, rfl⟩ := (pageE_mem hlen).1 hx
    refine ⟨a, by unfold pageE; rw [List.length_zip]; omega, fun e' => hne ?_, pageE_at hlen hal⟩
    subst e'; exact hk
  show x ∈ ents (delT t h k) h t.root ↔ x ∈ ents t h t.root ∧ _
  rw [ents_lvl, ents_lvl]
  have hlv2 : lvl (delT t h k) h t.root = lvl t h t.root := s3 h (Nat.le_refl _)
  rw [hlv2, e, List.flatMap_append, List.flatMap_cons, List.flatMap_append, List.flatMap_cons, fe hlo npre, fe hpo npost, ed]
  simp only [List.mem_append, herase]
  constructor
  ·rintro (hx | hx | hx)
   ·refine ⟨.inl hx, fun hc => ?_⟩
    obtain ⟨l, hl', hx⟩ := List.mem_flatMap.1 hx
    have := h1 l hl' x hx; rw [hc] at this; exact klt_irr k this
   ·exact ⟨.inr (.inl hx.1), hx.2⟩
   ·refine ⟨.inr (.inr hx), fun hc => ?_⟩
    obtain ⟨l, hl', hx⟩ := List.mem_flatMap.1 hx
    have := h2 l hl' x hx; rw [hc] at this; exact klt_irr k this
  ·rintro ⟨hx | hx | hx, hne⟩
   ·exact .inl hx
   ·exact .inr (.inl ⟨hx, hne⟩)
   ·exact .inr (.inr hx)
end Go.Proofs.Ythnobhekodiciaa.Tr

namespace Go.Proofs.Ythnobhekodiciaa.Tr
open Go.Lib (compareBytes)
set_option linter.unusedVariables false
set_option linter.unusedSimpArgs false
/-- Levels: a page is told at its own. -/
def padL (lv : List (List Int)) (n : Nat) : List (List Int) := lv ++ List.replicate (n - lv.length) []
def addL (lv : List (List Int)) (level : Nat) (i : Int) : List (List Int) := (padL lv (level + 1)).set level ((padL lv (level + 1)).getD level [] ++ [i])
abbrev Met := List Int × List (List Int)
/-- The kids of a page, one behind the other. -/
def kidsF (go : Int → K → K → Met → Option (Nat × Met)) (low : K) (p : PgL) : List Int → Nat → Option Nat → Met → Option (Nat × Met)
  | [], _, deep, s => deep.map fun d => (d, s)
  | c :: cs, k, deep, s => match go c (loK low p k) (hiK p k) s with
    | none => none
    | some (d, s') => if deep = none ∨ deep = some d then kidsF go low p cs (k + 1) (some d) s' else none
/-- A walk from a page down. -/
def wlkF (t : TreeL) : Nat → Int → K → K → Nat → Met → Option (Nat × Met)
  | 0, _, _, _, _, _ => none
  | f + 1, i, low, high, level, s =>
    if i ∈ s.1 then none
    else if (t.pg i).high ≠ high ∨ (∃ k, (t.pg i).keys.head? = some k ∧ klt k low) then none
    else if (t.pg i).leaf = true then some (level, (s.1 ++ [i], addL s.2 level i))
    else kidsF (fun c lo hi s => wlkF t f c lo hi (level + 1) s) low (t.pg i) (t.pg i).kids 0 none (s.1 ++ [i], addL s.2 level i)
def PagesOk (t : TreeL) : Prop := ∀ p ∈ t.pages, PageOk p t.pages.length
open Classical in
/-- What tree.Check answers. -/
noncomputable def checkF (t : TreeL) : Int :=
  if t.pages.length < 1 ∨ t.pages.length > 4000 ∨ t.root < 0 ∨ t.root ≥ t.pages.length then 11
  else if ¬ PagesOk t then 11
  else match wlkF t (t.pages.length + 1) t.root [] [] 0 ([], []) with
    | none => 11
    | some (_, s) => if s.1.length ≠ t.pages.length then 11 else if ∀ l ∈ s.2, Seg t l (-1) then 0 else 11

theorem padL_len (lv : List (List Int)) (n : Nat) : (padL lv n).length = max lv.length n := by unfold padL; rw [List.length_append, List.length_replicate]; omega
theorem padL_at (lv : List (List Int)) (n m : Nat) : (padL lv n).getD m [] = lv.getD m [] := by
 unfold padL
 rw [List.getD_eq_getElem?_getD, List.getD_eq_getElem?_getD]
 rcases Nat.lt_or_ge m lv.length with h | h
 ·rw [List.getElem?_append_left h]
 ·rw [List.getElem?_append_right h, List.getElem?_eq_none h, List.getElem?_replicate]
  split <;> rfl
theorem addL_len (lv : List (List Int)) (level : Nat) (i : Int) : (addL lv level i).length = max lv.length (level + 1) := by unfold addL; rw [List.length_set, padL_len]
theorem addL_at (lv : List (List Int)) (level : Nat) (i : Int) (m : Nat) : (addL lv level i).getD m [] = lv.getD m [] ++ (if m = level then [i] else []) := by
 unfold addL
 rw [List.getD_eq_getElem?_getD]
 by_cases e : m = level
 ·subst e
  rw [List.getElem?_set_self (by rw [padL_len]; omega), padL_at, if_pos rfl]; rfl
 ·rw [List.getElem?_set_ne (fun h => e h.symm), if_neg e, List.append_nil, ← List.getD_eq_getElem?_getD, padL_at]
/-- What stands so deep below a page; nothing, if that is not below it. -/
def lvlAt (t : TreeL) (h level : Nat) (i : Int) (m : Nat) : List Int := if level ≤ m ∧ m ≤ level + h then lvl t (m - level) i else []
variable {t : TreeL}
theorem wlk_kids {h level : Nat} {low : K} {p : PgL} (go : Int → K → K → Met → Option (Nat × Met))
  (hgo : ∀ (c : Int) (lo hi : K) (s : Met), OkT t h c lo hi → (∀ x ∈ ids t h c, x ∉ s.1) → (ids t h c).Nodup → ∃ lv, go c lo hi s = some (level + 1 + h, (s.1 ++ ids t h c, lv)) ∧ lv.length = max s.2.length (level + 1 + h + 1) ∧ ∀ m, lv.getD m [] = s.2.getD m [] ++ lvlAt t h (level + 1) c m) :
  ∀ (cs : List Int) (k : Nat) (deep : Option Nat) (s : Met), (∀ j (hj : j < cs.length), OkT t h cs[j] (loK low p (k + j)) (hiK p (k + j))) → (cs.flatMap (ids t h)).Nodup → (∀ x ∈ cs.flatMap (ids t h), x ∉ s.1) → (deep = none ∨ deep = some (level + 1 + h)) → (cs ≠ [] ∨ deep ≠ none) →
   ∃ lv, kidsF go low p cs k deep s = some (level + 1 + h, (s.1 ++ cs.flatMap (ids t h), lv)) ∧ lv.length = (if cs = [] then s.2.length else max s.2.length (level + 1 + h + 1)) ∧ ∀ m, lv.getD m [] = s.2.getD m [] ++ (if level + 1 ≤ m ∧ m ≤ level + 1 + h then cs.flatMap (lvl t (m - (level + 1))) else [])
 | [], k, deep, s, _, _, _, hd, hne => by
  rcases hd with rfl | rfl
  ·rcases hne with h | h <;> exact absurd rfl h
  ·exact ⟨s.2, by simp [kidsF], by simp, fun m => by split <;> simp⟩
 | c :: cs, k, deep, s, hok, hnd, hdis, hd, _ => by
  rw [List.flatMap_cons] at hnd hdis
  rw [List.nodup_append] at hnd
  obtain ⟨n1, n2, n3⟩ := hnd
  obtain ⟨lv1, e1, l1, m1⟩ := hgo c (loK low p k) (hiK p k) s (hok 0 (by simp)) (fun x hx => hdis x (List.mem_append_left _ hx)) n1
  obtain ⟨lv2, e2, l2, m2⟩ := wlk_kids go hgo cs (k + 1) (some (level + 1 + h)) (s.1 ++ ids t h c, lv1) (fun j hj => by
   have := hok (j + 1) (by simpa using hj)
   simp only [List.getElem_cons_succ] at this
   rw [show k + 1 + j = k + (j + 1) by omega]; exact this) n2 (fun x hx hm => by
    rcases List.mem_append.1 hm with hm | hm
    ·exact hdis x (List.mem_append_right _ hx) hm
    ·exact n3 x hm x hx rfl) (.inr rfl) (.inr (by simp))
  refine ⟨lv2, ?_, ?_, fun m => ?_⟩
  ·rw [kidsF, e1]
   show (if deep = none ∨ deep = some (level + 1 + h) then _ else _) = _
   rw [if_pos hd, e2, List.flatMap_cons, List.append_assoc]
  ·rw [l2]
   show (if cs = [] then lv1.length else max lv1.length _) = _
   rw [l1, if_neg (List.cons_ne_nil c cs)]; split <;> omega
  ·rw [m2, m1]
   unfold lvlAt
   split
   ·rw [List.flatMap_cons, List.append_assoc]
   ·simp
theorem wlk_ok (hp : ∀ p ∈ t.pages, PageOk p t.pages.length) : ∀ {h f : Nat} {i : Int} {low high : K} {level : Nat} {s : Met}, h < f → OkT t h i low high → (∀ x ∈ ids t h i, x ∉ s.1) → (ids t h i).Nodup →
  ∃ lv, wlkF t f i low high level s = some (level + h, (s.1 ++ ids t h i, lv)) ∧ lv.length = max s.2.length (level + h + 1) ∧ ∀ m, lv.getD m [] = s.2.getD m [] ++ lvlAt t h level i m
 | h, 0, _, _, _, _, _, hf, _, _, _ => by omega
 | 0, f + 1, i, low, high, level, s, hf, ok, hdis, hnd => by
  obtain ⟨q1, q2, q3, q4⟩ := ok
  refine ⟨addL s.2 level i, ?_, addL_len _ _ _, fun m => ?_⟩
  ·rw [wlkF, if_neg (hdis i (ids_head 0 i)), if_neg, if_pos q2]; rfl
   rintro (h | ⟨k, hk, hlt⟩)
   ·exact h q3
   ·exact q4 k (List.mem_of_mem_head? hk) hlt
  ·rw [addL_at]
   unfold lvlAt
   congr 1
   by_cases e : m = level
   ·subst e; rw [if_pos rfl, if_pos ⟨Nat.le_refl _, Nat.le_refl _⟩, Nat.sub_self]; rfl
   ·rw [if_neg e, if_neg (by omega)]
 | h + 1, f + 1, i, low, high, level, s, hf, ok, hdis, hnd => by
  obtain ⟨q1, q2, q3, q4, q5⟩ := ok
  have po := hp _ (pg_mem q1)
  have hkne : (t.pg i).kids ≠ [] := fun e => by have := (po.node q2).1; rw [e] at this; simp at this
  rw [ids, List.nodup_cons] at hnd
  rw [ids] at hdis
  obtain ⟨lv, e, l, mm⟩ := wlk_kids (t := t) (h := h) (level := level) (low := low) (p := t.pg i) (fun c lo hi s => wlkF t f c lo hi (level + 1) s)
   (fun c lo hi s ok hd hn => wlk_ok hp (h := h) (f := f) (level := level + 1) (by omega) ok hd hn) (t.pg i).kids 0 none (s.1 ++ [i], addL s.2 level i) (fun j hj => by rw [Nat.zero_add]; exact q5 j hj) hnd.2 (fun x hx hm => by
    rcases List.mem_append.1 hm with hm | hm
    ·exact hdis x (List.mem_cons_of_mem _ hx) hm
    ·rw [List.mem_singleton] at hm; subst hm; exact hnd.1 hx) (.inl rfl) (.inl hkne)
  refine ⟨lv, ?_, ?_, fun m => ?_⟩
  ·rw [wlkF, if_neg (hdis i List.mem_cons_self), if_neg, if_neg (by rw [q2]; decide), e, ids]
   ·simp; omega
   ·rintro (h | ⟨k, hk, hlt⟩)
    ·exact h q3
    ·exact q4 k (List.mem_of_mem_head? hk) hlt
  ·rw [l, if_neg hkne]
   show max (addL s.2 level i).length _ = _
   rw [addL_len]; omega
  ·rw [mm]
   show (addL s.2 level i).getD m [] ++ _ = _
   rw [addL_at]
   unfold lvlAt
   rw [List.append_assoc]
   congr 1
   by_cases e1 : m = level
   ·subst e1
    rw [if_pos rfl, if_neg (by omega), if_pos ⟨Nat.le_refl _, by omega⟩, Nat.sub_self]; rfl
   ·rw [if_neg e1, List.nil_append]
    by_cases e2 : level + 1 ≤ m ∧ m ≤ level + 1 + h
    ·rw [if_pos e2, if_pos (by omega)]
     obtain ⟨d, rfl⟩ : ∃ d, m = level + 1 + d := ⟨m - (level + 1), by omega⟩
     rw [show level + 1 + d - (level + 1) = d by omega, show level + 1 + d - level = d + 1 by omega, lvl]
    ·rw [if_neg e2, if_neg (by omega)]
open Classical in
/-- A tree that may be is found to be one. -/
theorem check_ok {h : Nat} (v : Valid t h) : checkF t = 0 := by
  have hr := v.range
  have hpos := v.pos
  have hm := v.most
  unfold checkF
  rw [if_neg (by omega), if_neg (by exact fun hn => hn v.page)]
  obtain ⟨lv, e, l, mm⟩ := wlk_ok v.page (f := t.pages.length + 1) (level := 0) (s := ([], [])) (by have := v.high; omega) v.ok (fun x _ hx => by cases hx) v.once
  rw [e]
  show (if ([] ++ ids t h t.root).length ≠ t.pages.length then _ else if ∀ l ∈ lv, Seg t l (-1) then (0 : Int) else 11) = 0
  rw [if_neg (by rw [List.nil_append, v.all]; simp), if_pos]
  intro x hx
  obtain ⟨m, hm', rfl⟩ := List.mem_iff_getElem.1 hx
  have := mm m
  rw [List.getD_eq_getElem?_getD, List.getElem?_eq_getElem hm'] at this
  have e2 : lv[m] = lvlAt t h 0 t.root m := by simpa using this
  rw [e2]
  unfold lvlAt
  rw [l] at hm'
  rw [if_pos (by simp at hm'; omega), Nat.sub_zero]
  exact v.seg m (by simp at hm'; omega)
end Go.Proofs.Ythnobhekodiciaa.Tr

namespace Go.Proofs.Ythnobhekodiciaa.V
open Go.RowKit
set_option linter.unusedVariables false
set_option linter.unusedSimpArgs false

/-- What a slot's value reads as (yld: what a loop over a function hands to it, with what lies in the loop's own objects): a value as it stands, a list that nobody writes any more (its cells, sz to an element), a place in one, a struct's cells, results, a function with what it holds. -/
inductive D where
  | v (x : Value)
  | list (sz : Nat) (cs : List D) (len : Nat)
  | iptr (cs : List D) (off : Nat)
  | agg (cs : List D)
  | tup (cs : List D)
  | clo (f : Fn) (cs : List D)
  | yld (l : Nat) (os : List (Nat × Obj))
  | junk
  deriving Inhabited

/-- In world w the value reads so; L: the blocks that are owned (no list lies there). -/
inductive Rep (w : World) (L : Nat → Prop) : D → Value → Prop
  | v (x : Value) : Rep w L (.v x) x
  | void (sz : Nat) (ad : Option Addr) (cap : Nat) : Rep w L (.list sz [] 0) (.slice ad 0 cap)
  | list (sz : Nat) (cs : List D) (len b o cap : Nat) (f : Nat → Value) (hl : cs.length = len * sz) (h1 : len ≤ cap) (h2 : cap ≤ maxLen) (hb : b < w.heap.size) (hL : ¬ L b)
      (hc : ∀ i, i < cs.length → w.cell? ⟨b, o + i, none⟩ = some (f i)) (hr : ∀ i (h : i < cs.length), Rep w L cs[i] (f i)) : Rep w L (.list sz cs len) (.slice (some ⟨b, o, none⟩) len cap)
  | iptr (cs : List D) (off b o : Nat) (f : Nat → Value) (hb : b < w.heap.size) (hL : ¬ L b)
      (hc : ∀ i, i < cs.length → w.cell? ⟨b, o + i, none⟩ = some (f i)) (hr : ∀ i (h : i < cs.length), Rep w L cs[i] (f i)) : Rep w L (.iptr cs off) (.pointer (some ⟨b, o + off, none⟩))
  | agg (cs : List D) (vs : List Value) (hl : vs.length = cs.length) (hr : ∀ i (h : i < cs.length) (h' : i < vs.length), Rep w L cs[i] vs[i]) : Rep w L (.agg cs) (.agg vs.toArray)
  | tup (cs : List D) (vs : List Value) (hl : vs.length = cs.length) (hr : ∀ i (h : i < cs.length) (h' : i < vs.length), Rep w L cs[i] vs[i]) : Rep w L (.tup cs) (.tuple vs.toArray)
  | clo (fn : Fn) (cs : List D) (vs : List Value) (hl : vs.length = cs.length) (hr : ∀ i (h : i < cs.length) (h' : i < vs.length), Rep w L cs[i] vs[i]) : Rep w L (.clo fn cs) (.func fn #[] vs.toArray)
  | yld (l : Nat) (os : List (Nat × Obj)) (h : ∀ z ∈ os, z.1 < w.heap.size ∧ ¬ L z.1 ∧ w.heap[z.1]? = some z.2) : Rep w L (.yld l os) (.func (.yield l) #[] #[])
  | junk (x : Value) : Rep w L .junk x

theorem Rep.nil {w : World} {L : Nat → Prop} (sz : Nat) : Rep w L (.list sz [] 0) (.slice none 0 0) := .void sz none 0

theorem lt_of_same {w w' : World} {b : Nat} (hb : b < w.heap.size) (h : w'.heap[b]? = w.heap[b]?) : b < w'.heap.size := by
 rcases Nat.lt_or_ge b w'.heap.size with h' | h'
 ·exact h'
 ·rw [Array.getElem?_eq_none h', Array.getElem?_eq_getElem hb] at h; cases h

theorem Rep.mono {w w' : World} {L L' : Nat → Prop} {d : D} {v : Value} (h : Rep w L d v) (H : ∀ b, b < w.heap.size → ¬ L b → w'.heap[b]? = w.heap[b]? ∧ ¬ L' b) : Rep w' L' d v := by
 induction h with
 | v x => exact .v x
 | void sz ad cap => exact .void sz ad cap
 | list sz cs len b o cap f hl h1 h2 hb hL hc hr ih =>
  have hh := H b hb hL
  exact .list sz cs len b o cap f hl h1 h2 (lt_of_same hb hh.1) hh.2 (fun i hi => (World.cell?_of_block (w := w) (a := ⟨b, o + i, none⟩) hh.1).trans (hc i hi)) ih
 | iptr cs off b o f hb hL hc hr ih =>
  have hh := H b hb hL
  exact .iptr cs off b o f (lt_of_same hb hh.1) hh.2 (fun i hi => (World.cell?_of_block (w := w) (a := ⟨b, o + i, none⟩) hh.1).trans (hc i hi)) ih
 | agg cs vs hl hr ih => exact .agg cs vs hl ih
 | tup cs vs hl hr ih => exact .tup cs vs hl ih
 | clo fn cs vs hl hr ih => exact .clo fn cs vs hl ih
 | yld l os h =>
  refine .yld l os fun z hz => ?_
  obtain ⟨h1, h2, h3⟩ := h z hz
  have hh := H z.1 h1 h2
  exact ⟨lt_of_same h1 hh.1, hh.2, hh.1.trans h3⟩
 | junk x => exact .junk x

/-- A block of one's own: its number, its type, how many cells it has, what the first ones read as. -/
structure Blk where
  b : Nat
  e : TypeId
  size : Nat
  cs : List D
  deriving Inhabited

/-- The number that stands for 'a set of keys' where a block's type stands. -/
def mapTag : TypeId := 1000003
def mapTag2 : TypeId := 1000004
def isMap (e : TypeId) : Bool := Nat.beq e mapTag || Nat.beq e mapTag2
/-- A map whose values are empty, its keys in the order in which they came. -/
def mapOb (cur : Array Value) : Obj := .map (cur.mapIdx fun i k => ⟨k, .agg #[], i⟩) cur.size
/-- A dictionary's cells: its clock, then a key, a value, a birth, and so on. -/
def bornOf : Value → Nat
  | .int _ n => n.toNat
  | _ => 0
def decE : List Value → List MapEntry
 | k :: v :: b :: r => ⟨k, v, bornOf b⟩ :: decE r
 | _ => []
def mapOb2 (cur : Array Value) : Obj := match cur.toList with
 | c :: r => .map (decE r).toArray (bornOf c)
 | [] => .map #[] 0
/-- What lies there: a block of cells, a set of keys, or a dictionary. -/
def ob (e : TypeId) (cur : Array Value) : Obj := bif isMap e then (bif Nat.beq e mapTag2 then mapOb2 cur else mapOb cur) else .cells cur e (0, 0)
theorem ob_cells {e : TypeId} (he : isMap e = false) (cur : Array Value) : ob e cur = .cells cur e (0, 0) := by rw [ob, he]; rfl
theorem ob_map (cur : Array Value) : ob mapTag cur = mapOb cur := rfl

def BlkAt (w : World) (L : Nat → Prop) (B : Blk) : Prop :=
 B.b < w.heap.size ∧ ∃ cur : Array Value, w.heap[B.b]? = some (ob B.e cur) ∧ cur.size = B.size ∧ B.cs.length ≤ B.size ∧ ∀ i (h : i < B.cs.length), ∃ u, cur[i]? = some u ∧ Rep w L B.cs[i] u

/-- Not a whole block's cells. -/
def plainV : Value → Bool
  | .tuple _ => false
  | _ => true
/-- A place of a table holds v; a tuple stands for all the cells of the block. -/
def tabCell (w : World) (b i : Nat) : Value → Prop
  | .tuple vs => ∃ t fz, w.heap[b]? = some (.cells vs t fz)
  | v => w.cell? ⟨b, i, none⟩ = some v
theorem tabCell.cell {w : World} {b i : Nat} {v : Value} (h : tabCell w b i v) (hv : plainV v = true) : w.cell? ⟨b, i, none⟩ = some v := by
 cases v <;> first | exact h | cases hv
theorem tabCell.of {w : World} {b i : Nat} {v : Value} (h : w.cell? ⟨b, i, none⟩ = some v) (hv : plainV v = true) : tabCell w b i v := by
 cases v <;> first | exact h | cases hv
theorem tabCell.on {w w' : World} {b i : Nat} {v : Value} (hb : w'.heap[b]? = w.heap[b]?) (h : tabCell w b i v) : tabCell w' b i v := by
 by_cases hv : plainV v = true
 ·exact .of ((World.cell?_of_block (w := w) (a := ⟨b, i, none⟩) hb).trans (h.cell hv)) hv
 ·cases v <;> first | exact absurd rfl hv | (obtain ⟨t, fz, h⟩ := h; exact ⟨t, fz, hb.trans h⟩)
theorem tabCell.lt {w : World} {b i : Nat} {v : Value} (h : tabCell w b i v) : b < w.heap.size := by
 by_cases hv : plainV v = true
 ·exact World.block_lt_of_cell? w _ (h.cell hv)
 ·cases v <;> first | exact absurd rfl hv | (obtain ⟨t, fz, h⟩ := h; exact (Array.getElem?_eq_some_iff.1 h).1)
theorem plain_at {vs : List Value} (h : vs.all plainV = true) {i : Nat} {v : Value} (hi : vs[i]? = some v) : plainV v = true := List.all_eq_true.1 h v (List.mem_of_getElem? hi)

structure Ctx where
 X : Nat → Prop
 w0 : World
 S0 : List Nat
 G : List (Nat × List Value)
 df : List Deferred
 esc : Act → World → Prop

structure St where
 n : Nat
 env : List (Nat × D)
 S : List Blk

def look (t : Nat) : List (Nat × D) → D
 | [] => .junk
 | (i, d) :: r => bif Nat.beq i t then d else look t r

theorem look_cons (t i : Nat) (d : D) (l : List (Nat × D)) : look t ((i, d) :: l) = if i = t then d else look t l := by
 rw [look]
 by_cases e : i = t
 ·subst e; simp
 ·have : Nat.beq i t = false := by
   cases h : Nat.beq i t with
   | false => rfl
   | true => exact absurd (Nat.eq_of_beq_eq_true h) e
  rw [this, if_neg e]; rfl

def bks (S : List Blk) : List Nat := S.map (·.b)

def live (X : Nat → Prop) (S : List Blk) (b : Nat) : Prop := X b ∨ b ∈ bks S

/-- Nothing turned but one's own blocks, of which none is another one's. -/
structure Fr (w : World) (S : List Nat) (w' : World) (S' : List Nat) : Prop where
  os : w'.os = w.os
  tape : w'.tape = w.tape
  output : w'.output = w.output
  size : w.heap.size ≤ w'.heap.size
  block : ∀ b, b < w.heap.size → b ∉ S → w'.heap[b]? = w.heap[b]? ∧ b ∉ S'

theorem Fr.refl (w : World) (S : List Nat) : Fr w S w S := ⟨rfl, rfl, rfl, Nat.le_refl _, fun _ _ h => ⟨rfl, h⟩⟩

theorem Fr.trans {w1 w2 w3 : World} {S1 S2 S3 : List Nat} (h : Fr w1 S1 w2 S2) (k : Fr w2 S2 w3 S3) : Fr w1 S1 w3 S3 :=
 ⟨k.os.trans h.os, k.tape.trans h.tape, k.output.trans h.output, Nat.le_trans h.size k.size, fun b hb hn =>
  have h1 := h.block b hb hn
  have h2 := k.block b (Nat.lt_of_lt_of_le hb h.size) h1.2
  ⟨h2.1.trans h1.1, h2.2⟩⟩

structure Own (w : World) (L : Nat → Prop) (S : List Blk) : Prop where
 at_ : ∀ B ∈ S, BlkAt w L B
 apart : (bks S).Nodup

structure Sim (C : Ctx) (x : St) (a : Act) (w : World) : Prop where
 defers : a.defers = C.df
 size : a.tmps.size = x.n
 env : ∀ t, t < x.n → Rep w (live C.X x.S) (look t x.env) (a.tmps.getD t undef)
 own : Own w (live C.X x.S) x.S
 fr : Fr C.w0 C.S0 w (bks x.S)
 ex : ∀ b, C.X b → b < C.w0.heap.size ∧ b ∉ C.S0
 tab : ∀ g ∈ C.G, (g.1 < C.w0.heap.size ∧ g.1 ∉ C.S0 ∧ ¬ C.X g.1) ∧ ∀ i v, g.2[i]? = some v → tabCell C.w0 g.1 i v

def St.put (x : St) (t : Nat) (d : D) : St := ⟨x.n, (t, d) :: x.env, x.S⟩

theorem Sim.put {C : Ctx} {x : St} {a : Act} {w : World} (h : Sim C x a w) {t : Nat} {d : D} {v : Value} (hd : Rep w (live C.X x.S) d v) : Sim C (x.put t d) (a.put (some t) v) w := by
 refine ⟨h.defers, by simp [Act.put, St.put, h.size], fun i hi => ?_, h.own, h.fr, h.ex, h.tab⟩
 have hs := h.size
 simp only [St.put, look_cons, Act.put] at hi ⊢
 by_cases e : t = i
 ·subst e
  rw [if_pos rfl]
  have : (a.tmps.setIfInBounds t v).getD t undef = v := by
   simp [Array.getElem?_setIfInBounds, hs, hi]
  rw [this]; exact hd
 ·rw [if_neg e]
  have : (a.tmps.setIfInBounds t v).getD i undef = a.tmps.getD i undef := by
   simp [Array.getElem?_setIfInBounds_ne e]
  rw [this]; exact h.env i hi

/-- Weakening: what is known of the first, is known of the second. -/
def Wk (x y : St) : Prop := ∀ C a w, Sim C x a w → Sim C y a w

theorem Wk.refl (x : St) : Wk x x := fun _ _ _ h => h
theorem Wk.trans {x y z : St} (h : Wk x y) (k : Wk y z) : Wk x z := fun C a w s => k C a w (h C a w s)

/-- A block that is not needed any more is let go. -/
theorem Own.sub {w : World} {X : Nat → Prop} {S S' : List Blk} (h : Own w (live X S) S) (hs : S'.Sublist S) : Own w (live X S') S' :=
  have hsub : (bks S').Sublist (bks S) := List.Sublist.map _ hs
  ⟨fun B hB => by
    obtain ⟨h0, cur, h1, h2, h3, h4⟩ := h.at_ B (hs.subset hB)
    refine ⟨h0, cur, h1, h2, h3, fun i hi => ?_⟩
    obtain ⟨u, hu, hr⟩ := h4 i hi
    exact ⟨u, hu, hr.mono fun b _ hn => ⟨rfl, fun hl => hn (hl.imp id fun q => hsub.subset q)⟩⟩, h.apart.sublist hsub⟩

theorem Wk.drop (n : Nat) (l : List (Nat × D)) (S S' : List Blk) (hs : S'.Sublist S) : Wk ⟨n, l, S⟩ ⟨n, l, S'⟩ := fun C a w h =>
 have hsub : (bks S').Sublist (bks S) := List.Sublist.map _ hs
 ⟨h.defers, h.size, fun t ht => (h.env t ht).mono fun b _ hn => ⟨rfl, fun hl => hn (hl.imp id fun q => hsub.subset q)⟩, h.own.sub hs,
  ⟨h.fr.os, h.fr.tape, h.fr.output, h.fr.size, fun b hb hn => ⟨(h.fr.block b hb hn).1, fun q => (h.fr.block b hb hn).2 (hsub.subset q)⟩⟩, h.ex, h.tab⟩

/-- A slot reads otherwise. -/
theorem Wk.ars {n : Nat} {l l' : List (Nat × D)} {S : List Blk} (H : ∀ (C : Ctx) (a : Act) (w : World), Sim C ⟨n, l, S⟩ a w → ∀ t, t < n → ∀ v, Rep w (live C.X S) (look t l) v → Rep w (live C.X S) (look t l') v) : Wk ⟨n, l, S⟩ ⟨n, l', S⟩ := fun C a w h =>
  ⟨h.defers, h.size, fun t ht => H C a w h t ht _ (h.env t ht), h.own, h.fr, h.ex, h.tab⟩

theorem Rep.v_eq {w : World} {L : Nat → Prop} {x y : Value} (h : Rep w L (.v x) y) : y = x := by cases h; rfl

/-- What an operand reads as. -/
def opd (x : St) : Operand → D
  | .tmp t => bif Nat.blt t x.n then look t x.env else .junk
  | .const v => .v v
  | .global g => .v (.pointer (some ⟨g, 0, none⟩))
  | .func f => .clo (.func f) []

theorem Sim.eval {C : Ctx} {x : St} {a : Act} {w : World} (h : Sim C x a w) (o : Operand) : Rep w (live C.X x.S) (opd x o) (a.eval o) := by
 cases o with
 | tmp t =>
  simp only [opd, Act.eval]
  cases ht : Nat.blt t x.n with
  | true => exact h.env t (Nat.le_of_ble_eq_true ht)
  | false => exact .junk _
 | const v => exact .v _
 | global g => exact .v _
 | func f => exact .clo (.func f) [] [] rfl (fun i h => by simp at h)

theorem Sim.flat {C : Ctx} {x : St} {a : Act} {w : World} (h : Sim C x a w) {o : Operand} {u : Value} (ho : opd x o = .v u) : a.eval o = u := by
 have := h.eval o
 rw [ho] at this
 exact this.v_eq

/-- An owned block of the state. -/
theorem Sim.blk {C : Ctx} {x : St} {a : Act} {w : World} (h : Sim C x a w) {k : Nat} {B : Blk} (hk : x.S[k]? = some B) : BlkAt w (live C.X x.S) B := h.own.at_ B (List.mem_of_getElem? hk)

theorem live_blk {X : Nat → Prop} {S : List Blk} {k : Nat} {B : Blk} (hk : S[k]? = some B) : live X S B.b := .inr (List.mem_map.2 ⟨B, List.mem_of_getElem? hk, rfl⟩)

/-- The tables stand as they stood. -/
theorem Sim.tabAt {C : Ctx} {x : St} {a : Act} {w : World} (h : Sim C x a w) {g : Nat × List Value} (hg : g ∈ C.G) {i : Nat} {v : Value} (hi : g.2[i]? = some v) : tabCell w g.1 i v := by
  obtain ⟨⟨h1, h2, h3⟩, h4⟩ := h.tab g hg
  exact (h4 i v hi).on (h.fr.block g.1 h1 h2).1

end Go.Proofs.Ythnobhekodiciaa.V

namespace Go.Proofs.Ythnobhekodiciaa.V
open Go.RowKit
set_option linter.unusedVariables false
set_option linter.unusedSimpArgs false

/-- What an operation looks at in memory: nothing; an owned block; what nobody writes; a table. -/
inductive Rd where
  | none
  | blk (k : Nat)
  | imm

def Same (C : Ctx) (x : St) (w w' : World) : Rd → Prop
 | .none => True
 | .blk k => ∀ B, x.S[k]? = some B → w'.heap[B.b]? = w.heap[B.b]?
 | .imm => ∀ b, b < w.heap.size → ¬ live C.X x.S b → w'.heap[b]? = w.heap[b]?

theorem Same.self (C : Ctx) (x : St) (w : World) : ∀ k, Same C x w w k
 | .none => trivial
 | .blk _ => fun _ _ => rfl
 | .imm => fun _ _ _ => rfl

/-- In such a state the operation yields what reads as d, and changes nothing. G: the tables that it looks at. -/
def Still (P : Program) (G : List (Nat × List Value)) (x : St) (o : Oper) (k : Rd) (d : D) : Prop :=
  ∀ C a w, C.G = G → Sim C x a w → ∃ v, Rep w (live C.X x.S) d v ∧ ∀ w', Same C x w w' k → (execOp a.eval o).run P w' = .ok (.value v) w'

variable {P : Program} {G : List (Nat × List Value)} {x : St} {o : Oper}

theorem still_move {y : Operand} (ho : o.op = .move y) : Still P G x o .none (opd x y) := fun C a w _ h =>
 ⟨a.eval y, h.eval y, fun w' _ => by unfold execOp; simp [ho]⟩

theorem still_assign {y : Operand} (ho : o.op = .assign y) : Still P G x o .none (opd x y) := fun C a w _ h =>
 ⟨a.eval y, h.eval y, fun w' _ => by unfold execOp; simp [ho]⟩

theorem still_pick {c y z : Operand} {t : Bool} (ho : o.op = .pick c y z) (hc : opd x c = .v (.bool t)) : Still P G x o .none (if t then opd x y else opd x z) := fun C a w _ h => by
 refine ⟨if t then a.eval y else a.eval z, by cases t <;> simp [h.eval], fun w' _ => ?_⟩
 unfold execOp
 simp only [ho, h.flat hc, asBool]
 cases t <;> simp

/-- An operation on two plain values. -/
def BinOK (P : Program) (op : BinOp) (t : TypeId) (u u' r : Value) : Prop := ∀ (y z : Operand) w, (do eqGuard op t y z u u'; Go.binOp op t u u' : Sem Value).run P w = .ok r w

theorem still_bin {op : BinOp} {t t' : TypeId} {y z : Operand} {u u' r : Value} (ho : o.op = .binOp op t y z t') (hy : opd x y = .v u) (hz : opd x z = .v u') (hb : BinOK P op t u u' r) : Still P G x o .none (.v r) := fun C a w _ h =>
 ⟨r, .v _, fun w' _ => by
  unfold execOp
  have := hb y z w'
  simp only [Sem.run_bind] at this
  simp only [ho, h.flat hy, h.flat hz, Sem.run_bind, this, Result.andThen_ok, Sem.run_pure]⟩

theorem still_un {op : UnOp} {t : TypeId} {y : Operand} {u r : Value} (ho : o.op = .unOp op t y) (hy : opd x y = .v u) (hb : ∀ w, (Op.unary op u).run P w = .ok r w) : Still P G x o .none (.v r) := fun C a w _ h =>
 ⟨r, .v _, fun w' _ => by
  unfold execOp
  simp only [ho, h.flat hy, Sem.run_bind, hb w', Result.andThen_ok, Sem.run_pure]⟩

theorem still_conv {s t : TypeId} {y : Operand} {u r : Value} (ho : o.op = .convert s t y) (hy : opd x y = .v u) (hb : ∀ w, (Go.convert s t u).run P w = .ok r w) : Still P G x o .none (.v r) := fun C a w _ h =>
 ⟨r, .v _, fun w' _ => by
  unfold execOp
  simp only [ho, h.flat hy, Sem.run_bind, hb w', Result.andThen_ok, Sem.run_pure]⟩

/-! ### Fields and places -/

theorem run_field_ptr {s : TypeId} {i n off b o' : Nat} {f : Field} {fs : Array Field} {w : World} (hu : ∀ w, (underlying s).run P w = .ok (.struct fs) w) (hf : fs[i]? = some f) (hn : ∀ w, (sizeOf f.type).run P w = .ok (n + 1) w) (hoff : f.offset = off) :
  (Instr.fieldAt s (.pointer (some ⟨b, o', none⟩)) i).run P w = .ok (.pointer (some ⟨b, o' + off, none⟩)) w := by
 subst hoff
 simp [Instr.fieldAt, hu, hf, Instr.sureAddr, fieldPlace, hn, Addr.add_mid]

theorem still_field {s : TypeId} {i n off b o' : Nat} {f : Field} {fs : Array Field} {y : Operand} (ho : o.op = .fieldAddr s y i) (hy : opd x y = .v (.pointer (some ⟨b, o', none⟩)))
  (hu : ∀ w, (underlying s).run P w = .ok (.struct fs) w) (hf : fs[i]? = some f) (hn : ∀ w, (sizeOf f.type).run P w = .ok (n + 1) w) (hoff : f.offset = off) : Still P G x o .none (.v (.pointer (some ⟨b, o' + off, none⟩))) := fun C a w _ h =>
 ⟨_, .v _, fun w' _ => by
  unfold execOp
  simp only [ho, h.flat hy, Sem.run_bind, run_field_ptr hu hf hn hoff, Result.andThen_ok, Sem.run_pure]⟩

theorem still_ifield {s : TypeId} {i n off o' : Nat} {cs : List D} {f : Field} {fs : Array Field} {y : Operand} (ho : o.op = .fieldAddr s y i) (hy : opd x y = .iptr cs o')
  (hu : ∀ w, (underlying s).run P w = .ok (.struct fs) w) (hf : fs[i]? = some f) (hn : ∀ w, (sizeOf f.type).run P w = .ok (n + 1) w) (hoff : f.offset = off) : Still P G x o .none (.iptr cs (o' + off)) := fun C a w _ h => by
 have hr := h.eval y
 rw [hy] at hr
 generalize hg : a.eval y = u at hr
 cases hr with
 | iptr _ _ b o'' g hb hL hc hr =>
  refine ⟨_, .iptr cs (o' + off) b o'' g hb hL hc hr, fun w' _ => ?_⟩
  unfold execOp
  simp only [ho, hg, Sem.run_bind, run_field_ptr hu hf hn hoff, Result.andThen_ok, Sem.run_pure, Nat.add_assoc]

theorem still_extract {i : Nat} {cs : List D} {d : D} {y : Operand} (ho : o.op = .extract y i) (hy : opd x y = .tup cs) (hd : cs[i]? = some d) : Still P G x o .none d := fun C a w _ h => by
 have hr := h.eval y
 rw [hy] at hr
 generalize hg : a.eval y = u at hr
 cases hr with
 | tup _ vs hl hr =>
  obtain ⟨hlt, he⟩ := List.getElem?_eq_some_iff.1 hd
  refine ⟨vs[i]'(by omega), ?_, fun w' _ => ?_⟩
  ·rw [← he]; exact hr _ hlt (by omega)
  ·unfold execOp
   simp [ho, hg, Instr.extract, List.getElem?_eq_getElem (show i < vs.length by omega)]

/-! ### Loads -/

theorem run_load1 {t : TypeId} {b o' : Nat} {v : Value} {w : World} (ha : ∀ w, (isAgg t).run P w = .ok false w) (hc : w.cell? ⟨b, o', none⟩ = some v) :
  (Instr.loadAt t (.pointer (some ⟨b, o', none⟩))).run P w = .ok v w := by
 simp [Instr.loadAt, Instr.sureAddr, loadVar, ha, hc]

theorem run_loadN {t : TypeId} {b o' n : Nat} {vs : List Value} {w : World} (ha : ∀ w, (isAgg t).run P w = .ok true w) (hn : ∀ w, (sizeOf t).run P w = .ok n w) (hl : vs.length = n)
  (hc : ∀ j (h : j < vs.length), w.cell? ⟨b, o' + j, none⟩ = some vs[j]) :
  (Instr.loadAt t (.pointer (some ⟨b, o', none⟩))).run P w = .ok (.agg vs.toArray) w := by
 have := run_loadCells_list (P := P) w ⟨b, o', none⟩ vs (fun j v hv => by
  obtain ⟨h1, h2⟩ := List.getElem?_eq_some_iff.1 hv
  rw [Addr.add_mid, hc j h1, h2])
 rw [hl] at this
 simp [Instr.loadAt, Instr.sureAddr, loadVar, ha, hn, this]

theorem cell_blk {w : World} {b i : Nat} {cur : Array Value} {e : TypeId} {u : Value} (hh : w.heap[b]? = some (.cells cur e (0, 0))) (hu : cur[i]? = some u) : w.cell? ⟨b, i, none⟩ = some u := by
 unfold World.cell?
 simp [hh, hu]

theorem still_load {t : TypeId} {k b o' : Nat} {B : Blk} {d : D} {y : Operand} (ho : o.op = .load t y) (hy : opd x y = .v (.pointer (some ⟨b, o', none⟩)))
  (hk : x.S[k]? = some B) (hb : B.b = b) (ha : ∀ w, (isAgg t).run P w = .ok false w) (hd : B.cs[o']? = some d) (hne : isMap B.e = false := by rfl) : Still P G x o (.blk k) d := fun C a w _ h => by
 obtain ⟨_, cur, h1, h2, h3, h4⟩ := h.blk hk
 rw [ob_cells hne] at h1
 obtain ⟨hlt, he⟩ := List.getElem?_eq_some_iff.1 hd
 obtain ⟨u, hu, hr⟩ := h4 o' hlt
 refine ⟨u, by rw [← he]; exact hr, fun w' hw => ?_⟩
 have hh : w'.heap[B.b]? = _ := (hw B hk).trans h1
 unfold execOp
 subst hb
 simp only [ho, h.flat hy, Sem.run_bind, run_load1 ha (cell_blk hh hu), Result.andThen_ok, Sem.run_pure]

theorem still_loads {t : TypeId} {k b o' n : Nat} {B : Blk} {ds : List D} {y : Operand} (ho : o.op = .load t y) (hy : opd x y = .v (.pointer (some ⟨b, o', none⟩)))
  (hk : x.S[k]? = some B) (hb : B.b = b) (ha : ∀ w, (isAgg t).run P w = .ok true w) (hn : ∀ w, (sizeOf t).run P w = .ok n w) (hl : ds.length = n) (hd : (B.cs.drop o').take n = ds) (hne : isMap B.e = false := by rfl) : Still P G x o (.blk k) (.agg ds) := fun C a w _ h => by
 obtain ⟨_, cur, h1, h2, h3, h4⟩ := h.blk hk
 rw [ob_cells hne] at h1
 have hlen : o' + n ≤ B.cs.length ∨ n = 0 := by
  have := congrArg List.length hd
  simp only [List.length_take, List.length_drop] at this
  omega
 have hget : ∀ j, j < n → ∃ u, cur[o' + j]? = some u ∧ ∀ (h : j < ds.length), Rep w (live C.X x.S) ds[j] u := fun j hj => by
  obtain ⟨u, hu, hr⟩ := h4 (o' + j) (by omega)
  refine ⟨u, hu, fun h => ?_⟩
  subst hd
  simpa using hr
 refine ⟨.agg ((List.range n).map fun j => cur.getD (o' + j) undef).toArray, .agg _ _ (by simp [hl]) (fun i q1 q2 => ?_), fun w' hw => ?_⟩
 ·obtain ⟨u, hu, hr⟩ := hget i (by omega)
  simp only [List.getElem_map, List.getElem_range, Array.getD_eq_getD_getElem?, hu, Option.getD_some]
  exact hr q1
 ·have hh : w'.heap[B.b]? = _ := (hw B hk).trans h1
  unfold execOp
  subst hb
  have := run_loadN (P := P) (w := w') (b := B.b) (o' := o') (vs := (List.range n).map fun j => cur.getD (o' + j) undef) ha hn (by simp) (fun j hj => by
   simp only [List.length_map, List.length_range] at hj
   obtain ⟨u, hu, _⟩ := hget j hj
   simp only [List.getElem_map, List.getElem_range, Array.getD_eq_getD_getElem?, hu, Option.getD_some]
   exact cell_blk hh hu)
  simp only [ho, h.flat hy, Sem.run_bind, this, Result.andThen_ok, Sem.run_pure]

theorem still_iload {t : TypeId} {o' : Nat} {cs : List D} {d : D} {y : Operand} (ho : o.op = .load t y) (hy : opd x y = .iptr cs o')
  (ha : ∀ w, (isAgg t).run P w = .ok false w) (hd : cs[o']? = some d) : Still P G x o .imm d := fun C a w _ h => by
 have hr := h.eval y
 rw [hy] at hr
 generalize hg : a.eval y = u at hr
 cases hr with
 | iptr _ _ b o'' g hb hL hc hr =>
  obtain ⟨hlt, he⟩ := List.getElem?_eq_some_iff.1 hd
  refine ⟨g o', by rw [← he]; exact hr o' hlt, fun w' hw => ?_⟩
  have hh := World.cell?_of_block (w := w) (a := ⟨b, o'' + o', none⟩) (hw b hb hL)
  unfold execOp
  simp only [ho, hg, Sem.run_bind, run_load1 ha (hh.trans (hc o' hlt)), Result.andThen_ok, Sem.run_pure]

theorem still_iloads {t : TypeId} {o' n : Nat} {cs ds : List D} {y : Operand} (ho : o.op = .load t y) (hy : opd x y = .iptr cs o')
  (ha : ∀ w, (isAgg t).run P w = .ok true w) (hn : ∀ w, (sizeOf t).run P w = .ok n w) (hl : ds.length = n) (hd : (cs.drop o').take n = ds) : Still P G x o .imm (.agg ds) := fun C a w _ h => by
 have hr := h.eval y
 rw [hy] at hr
 generalize hg : a.eval y = u at hr
 cases hr with
 | iptr _ _ b o'' g hb hL hc hr =>
  have hlen : o' + n ≤ cs.length ∨ n = 0 := by
   have := congrArg List.length hd
   simp only [List.length_take, List.length_drop] at this
   omega
  refine ⟨.agg ((List.range n).map fun j => g (o' + j)).toArray, .agg _ _ (by simp [hl]) (fun i q1 q2 => ?_), fun w' hw => ?_⟩
  ·simp only [List.getElem_map, List.getElem_range]
   have := hr (o' + i) (by omega)
   subst hd
   simpa using this
  ·have := run_loadN (P := P) (w := w') (b := b) (o' := o'' + o') (vs := (List.range n).map fun j => g (o' + j)) ha hn (by simp) (fun j hj => by
    simp only [List.length_map, List.length_range] at hj
    simp only [List.getElem_map, List.getElem_range]
    have hh := World.cell?_of_block (w := w) (a := ⟨b, o'' + o' + j, none⟩) (hw b hb hL)
    rw [hh, Nat.add_assoc]
    exact hc _ (by omega))
   unfold execOp
   simp only [ho, hg, Sem.run_bind, this, Result.andThen_ok, Sem.run_pure]

end Go.Proofs.Ythnobhekodiciaa.V

namespace Go.Proofs.Ythnobhekodiciaa.V
open Go.RowKit
set_option linter.unusedVariables false
set_option linter.unusedSimpArgs false

variable {P : Program} {G : List (Nat × List Value)} {x : St} {o : Oper}

/-! ### Places in lists -/

theorem run_idx {t e : TypeId} {b o' len cap sz j : Nat} {k : IntKind} {i : Int} {w : World} (hu : ∀ w, (underlying t).run P w = .ok (.slice e) w) (hs : ∀ w, (sizeOf e).run P w = .ok sz w) (hi : i = j) (hj : j < len) :
  (Instr.indexAt t (.slice (some ⟨b, o', none⟩) len cap) (.int k i)).run P w = .ok (.pointer (some ⟨b, o' + j * sz, none⟩)) w := by
 subst hi
 simp [Instr.indexAt, asIntOf, hu, hs, hj, Addr.add_mid]

theorem still_idx {t e : TypeId} {len sz j : Nat} {cs : List D} {k : IntKind} {i : Int} {y z : Operand} (ho : o.op = .indexAddr t y z) (hy : opd x y = .list sz cs len) (hz : opd x z = .v (.int k i))
  (hu : ∀ w, (underlying t).run P w = .ok (.slice e) w) (hs : ∀ w, (sizeOf e).run P w = .ok sz w) (hi : i = j) (hj : j < len) : Still P G x o .none (.iptr cs (j * sz)) := fun C a w _ h => by
 have hr := h.eval y
 rw [hy] at hr
 generalize hg : a.eval y = u at hr
 cases hr with
 | void => omega
 | list _ _ _ b o'' cap g hl h1 h2 hb hL hc hr =>
  refine ⟨_, .iptr cs (j * sz) b o'' g hb hL hc hr, fun w' _ => ?_⟩
  unfold execOp
  simp only [ho, hg, h.flat hz, Sem.run_bind, run_idx hu hs hi hj, Result.andThen_ok, Sem.run_pure]

theorem still_ridx {t e : TypeId} {b o' len cap sz j : Nat} {k : IntKind} {i : Int} {y z : Operand} (ho : o.op = .indexAddr t y z) (hy : opd x y = .v (.slice (some ⟨b, o', none⟩) len cap)) (hz : opd x z = .v (.int k i))
  (hu : ∀ w, (underlying t).run P w = .ok (.slice e) w) (hs : ∀ w, (sizeOf e).run P w = .ok sz w) (hi : i = j) (hj : j < len) : Still P G x o .none (.v (.pointer (some ⟨b, o' + j * sz, none⟩))) := fun C a w _ h =>
 ⟨_, .v _, fun w' _ => by
  unfold execOp
  simp only [ho, h.flat hy, h.flat hz, Sem.run_bind, run_idx hu hs hi hj, Result.andThen_ok, Sem.run_pure]⟩

/-! ### Slices -/

/-- The bounds of a slice expression that are there. -/
def bound (x : St) (y : Option Operand) (n : Nat) (dflt : Nat) : Prop :=
  match y with
  | some y => ∃ (k : IntKind) (i : Int), opd x y = .v (.int k i) ∧ i = n
  | none => n = dflt

theorem bound_eval {C : Ctx} {a : Act} {w : World} (h : Sim C x a w) {y : Option Operand} {n dflt : Nat} (hb : bound x y n dflt) : (∃ k, y.map a.eval = some (.int k n)) ∨ (y.map a.eval = none ∧ n = dflt) := by
 cases y with
 | none => exact .inr ⟨rfl, hb⟩
 | some y =>
  obtain ⟨k, i, h1, h2⟩ := hb
  exact .inl ⟨k, by rw [Option.map_some, h.flat h1, h2]⟩

theorem run_sbound {k : IntKind} {n m : Nat} {code : BoundsCode} {w : World} (h : n ≤ m) : (Instr.sliceBound (.int k n) m code).run P w = .ok n w := by
 unfold Instr.sliceBound
 simp [asIntOf, h]

theorem run_sbounds {il : Bool} {len cap l h : Nat} {lo hi : Option Value} {w : World} (hlo : (∃ k, lo = some (.int k l)) ∨ (lo = none ∧ l = 0)) (hhi : (∃ k, hi = some (.int k h)) ∨ (hi = none ∧ h = len)) (h1 : l ≤ h) (h2 : h ≤ cap) :
  (Instr.sliceBounds il len cap lo hi none).run P w = .ok (l, h, cap) w := by
 unfold Instr.sliceBounds
 rcases hlo with ⟨k, rfl⟩ | ⟨rfl, rfl⟩ <;> rcases hhi with ⟨k', rfl⟩ | ⟨rfl, rfl⟩ <;> simp [run_sbound, h1, h2]

theorem still_slice {t e : TypeId} {len sz l h' : Nat} {cs : List D} {y : Operand} {lo hi : Option Operand} (ho : o.op = .slice t y lo hi none) (hy : opd x y = .list sz cs len) (hlo : bound x lo l 0) (hhi : bound x hi h' len)
  (hu : ∀ w, (underlying t).run P w = .ok (.slice e) w) (hs : ∀ w, (sizeOf e).run P w = .ok sz w) (h1 : l ≤ h') (h2 : h' ≤ len) : Still P G x o .none (.list sz ((cs.drop (l * sz)).take ((h' - l) * sz)) (h' - l)) := fun C a w _ h => by
 have hr := h.eval y
 rw [hy] at hr
 generalize hg : a.eval y = u at hr
 have b1 := bound_eval h hlo
 have b2 := bound_eval h hhi
 cases hr with
 | void _ ad cap =>
  have e1 : l = 0 := by omega
  have e2 : h' = 0 := by omega
  subst e1 e2
  refine ⟨.slice (if cap = 0 then ad else ad.map (·.add (0 * sz))) 0 cap, by simpa using Rep.void sz _ _, fun w' _ => ?_⟩
  unfold execOp
  simp [ho, hg, Instr.sliceAt, Instr.slice, hu, run_sbounds b1 b2 (Nat.le_refl _) (Nat.zero_le _), hs]
 | list _ _ _ b o'' cap g hl q1 q2 hb hL hc hr =>
  have hlen : ((cs.drop (l * sz)).take ((h' - l) * sz)).length = (h' - l) * sz := by
   rw [List.length_take, List.length_drop, hl, ← Nat.sub_mul]
   exact Nat.min_eq_left (Nat.mul_le_mul_right _ (by omega))
  have hmul : ∀ i, i < (h' - l) * sz → l * sz + i < cs.length := fun i hi => by
   rw [hl]
   have : l * sz + (h' - l) * sz ≤ len * sz := by rw [← Nat.add_mul]; exact Nat.mul_le_mul_right _ (by omega)
   omega
  by_cases hcap : cap = l
  ·have e2 : h' = l := by omega
   refine ⟨.slice (some ⟨b, o'', none⟩) (h' - l) (cap - l), ?_, fun w' _ => ?_⟩
   ·refine .list sz _ _ b o'' _ g hlen (by omega) (by omega) hb hL (fun i hi => ?_) (fun i hi => ?_) <;> (rw [hlen, e2] at hi; simp at hi)
   ·have b3 := fun w => run_sbounds (P := P) (il := true) (w := w) b1 b2 h1 (Nat.le_trans h2 q1)
    unfold execOp
    simp only [ho, hg, Instr.sliceAt, Instr.slice, hu, Sem.run_bind, Result.andThen_ok, Option.map_none, b3, hs, Sem.run_pure, if_pos hcap]
  ·refine ⟨.slice (some ⟨b, o'' + l * sz, none⟩) (h' - l) (cap - l), ?_, fun w' _ => ?_⟩
   ·refine .list sz _ _ b (o'' + l * sz) _ (fun i => g (l * sz + i)) hlen (by omega) (by omega) hb hL (fun i hi => ?_) (fun i hi => ?_)
    ·rw [Nat.add_assoc]; exact hc _ (hmul i (by rw [hlen] at hi; exact hi))
    ·simp only [List.getElem_take, List.getElem_drop]
     exact hr _ _
   ·have b3 := fun w => run_sbounds (P := P) (il := true) (w := w) b1 b2 h1 (Nat.le_trans h2 q1)
    unfold execOp
    simp only [ho, hg, Instr.sliceAt, Instr.slice, hu, Sem.run_bind, Result.andThen_ok, Option.map_none, b3, hs, Sem.run_pure, if_neg hcap, Option.map_some, Addr.add_mid]

/-- A slice of one's own, its head. -/
theorem still_rslice {t e : TypeId} {b o' len cap sz h' : Nat} {y : Operand} {lo hi : Option Operand} (ho : o.op = .slice t y lo hi none) (hy : opd x y = .v (.slice (some ⟨b, o', none⟩) len cap)) (hlo : bound x lo 0 0) (hhi : bound x hi h' len)
    (hu : ∀ w, (underlying t).run P w = .ok (.slice e) w) (hs : ∀ w, (sizeOf e).run P w = .ok sz w) (h2 : h' ≤ cap) : Still P G x o .none (.v (.slice (some ⟨b, o', none⟩) h' cap)) := fun C a w _ h =>
  ⟨_, .v _, fun w' _ => by
    have b1 := bound_eval h hlo
    have b2 := bound_eval h hhi
    unfold execOp
    simp [ho, h.flat hy, Instr.sliceAt, Instr.slice, hu, run_sbounds b1 b2 (Nat.zero_le _) h2, hs, Addr.add_mid]⟩

/-! ### len, cap, min, max -/

theorem still_len {t : TypeId} {sz len : Nat} {cs : List D} {y : Operand} {ts : Array TypeId} (ho : o.op = .call { callee := .builtin .len, args := #[y], argTypes := ts }) (ht : ts = #[t]) (hy : opd x y = .list sz cs len)
  {e : TypeId} (hu : ∀ w, (underlying t).run P w = .ok (.slice e) w) : Still P G x o .none (.v (.int .i64 len)) := fun C a w _ h => by
 have hr := h.eval y
 rw [hy] at hr
 generalize hg : a.eval y = u at hr
 subst ht
 refine ⟨_, .v _, fun w' _ => ?_⟩
 cases hr <;> (unfold execOp; simp [ho, hg, resolve, invoke, builtin, Builtin.len_, hu, goInt])

theorem still_rlen {t : TypeId} {ad : Option Addr} {len cap : Nat} {y : Operand} {ts : Array TypeId} (ho : o.op = .call { callee := .builtin .len, args := #[y], argTypes := ts }) (ht : ts = #[t]) (hy : opd x y = .v (.slice ad len cap))
  {e : TypeId} (hu : ∀ w, (underlying t).run P w = .ok (.slice e) w) : Still P G x o .none (.v (.int .i64 len)) := fun C a w _ h => by
 subst ht
 refine ⟨_, .v _, fun w' _ => ?_⟩
 unfold execOp; simp [ho, h.flat hy, resolve, invoke, builtin, Builtin.len_, hu, goInt]

/-! ### Operations that make or write a block -/

/-- From w to w' nothing turned but the blocks in W and new ones. -/
def Chg (W : List Nat) (w w' : World) : Prop := w.heap.size ≤ w'.heap.size ∧ ∀ b, b < w.heap.size → b ∉ W → w'.heap[b]? = w.heap[b]?

/-- The operation goes well, and leaves a state that meets 'post'. -/
def Eff (P : Program) (G : List (Nat × List Value)) (x : St) (o : Oper) (W : List Nat) (post : St → Prop) : Prop :=
  ∀ (C : Ctx) (a : Act) (w : World) (K : Act → World → Prop) (Q : Exit → Act → World → Prop), C.G = G → Sim C x a w → (∀ y a' w', post y → Sim C y a' w' → Chg W w w' → Fr w (bks x.S) w' (bks y.S) → K a' w') → o.wp P a w K Q

theorem Chg.refl (W : List Nat) (w : World) : Chg W w w := ⟨Nat.le_refl _, fun _ _ _ => rfl⟩

theorem Still.eff {k : Rd} {d : D} {t : Nat} (h : Still P G x o k d) (hd : o.dst = some t) : Eff P G x o [] (fun y => y = x.put t d) := fun C a w K Q hG hs hK => by
 obtain ⟨v, hr, hrun⟩ := h C a w hG hs
 unfold Oper.wp
 rw [hrun w (Same.self C x w k), Oper.upon_value, hd]
 exact hK _ _ _ rfl (hs.put hr) (Chg.refl _ _) (Fr.refl _ _)

/-- The cells of a value. -/
def cellsOf : D → List D
  | .agg cs => cs
  | .v (.agg cs) => cs.toList.map .v
  | d => [d]

def RepL (w : World) (L : Nat → Prop) (ds : List D) (vs : List Value) : Prop := vs.length = ds.length ∧ ∀ i (h : i < ds.length) (h' : i < vs.length), Rep w L ds[i] vs[i]

theorem RepL.mono {w w' : World} {L L' : Nat → Prop} {ds : List D} {vs : List Value} (h : RepL w L ds vs) (H : ∀ b, b < w.heap.size → ¬ L b → w'.heap[b]? = w.heap[b]? ∧ ¬ L' b) : RepL w' L' ds vs :=
 ⟨h.1, fun i h1 h2 => (h.2 i h1 h2).mono H⟩

/-- One cell, of which nothing else can come. -/
def one : D → Bool
  | .v x => x.oneCell'
  | .list .. | .iptr .. | .clo .. => true
  | _ => false

theorem Rep.one_cell {w : World} {L : Nat → Prop} {d : D} {v : Value} (h : Rep w L d v) (hd : one d = true) : v.oneCell' = true := by
 cases h <;> first | exact hd | rfl | exact absurd hd (by simp [one])

theorem Rep.cells {w : World} {L : Nat → Prop} {d : D} {v : Value} (h : Rep w L d v) (hd : d ≠ .junk) : RepL w L (cellsOf d) v.cells.toList := by
 have single : ∀ (d : D) (v : Value), v.cells = #[v] → cellsOf d = [d] → Rep w L d v → RepL w L (cellsOf d) v.cells.toList := fun d v h1 h2 h3 => by
  rw [h1, h2]
  refine ⟨rfl, fun i q1 q2 => ?_⟩
  have : i = 0 := by simpa using q1
  subst this
  exact h3
 cases h with
 | v =>
  cases v with
  | agg cs =>
   refine ⟨by simp [cellsOf, Value.cells], fun i q1 q2 => ?_⟩
   simp only [cellsOf, List.getElem_map, Value.cells]
   exact .v _
  | _ => exact single _ _ rfl rfl (.v _)
 | void sz ad cap => exact single _ _ rfl rfl (.void sz ad cap)
 | list sz cs len b o cap f hl h1 h2 hb hL hc hr => exact single _ _ rfl rfl (.list sz cs len b o cap f hl h1 h2 hb hL hc hr)
 | iptr cs off b o f hb hL hc hr => exact single _ _ rfl rfl (.iptr cs off b o f hb hL hc hr)
 | agg cs vs hl hr => exact ⟨by simp [cellsOf, Value.cells, hl], fun i q1 q2 => hr i q1 q2⟩
 | tup cs vs hl hr => exact single _ _ rfl rfl (.tup cs vs hl hr)
 | clo fn cs vs hl hr => exact single _ _ rfl rfl (.clo fn cs vs hl hr)
 | yld l os h => exact single _ _ rfl rfl (.yld l os h)
 | junk => exact absurd rfl hd

theorem getElem?_push_lt {w : World} {ob : Obj} {b : Nat} (h : b < w.heap.size) : (w.alloc ob).heap[b]? = w.heap[b]? := Below.heap_alloc w ob b h

/-- A new block. -/
theorem Sim.newOb {C : Ctx} {a : Act} {w : World} (h : Sim C x a w) {t : Nat} {cells : Array Value} {e : TypeId} {ds : List D} {size : Nat} (hr : RepL w (live C.X x.S) ds cells.toList) (hsz : cells.size = size) {d : D} {v : Value}
    (hd : ∀ L, Rep (w.alloc (ob e cells)) L d v) :
    Sim C ⟨x.n, (t, d) :: x.env, ⟨w.heap.size, e, size, ds⟩ :: x.S⟩ (a.put (some t) v) (w.alloc (ob e cells)) := by
  have hlt : ∀ b, live C.X x.S b → b < w.heap.size := fun b hb => by
    rcases hb with hb | hb
    · exact Nat.lt_of_lt_of_le (h.ex b hb).1 h.fr.size
    · obtain ⟨B, hB, rfl⟩ := List.mem_map.1 hb
      exact (h.own.at_ B hB).1
  have H : ∀ b, b < w.heap.size → ¬ live C.X x.S b → (w.alloc (ob e cells)).heap[b]? = w.heap[b]? ∧ ¬ live C.X (⟨w.heap.size, e, size, ds⟩ :: x.S) b := fun b hb hn =>
    ⟨getElem?_push_lt hb, fun hl => by
      rcases hl with hl | hl
      · exact hn (.inl hl)
      · simp only [bks, List.map_cons, List.mem_cons] at hl
        rcases hl with hl | hl
        · omega
        · exact hn (.inr hl)⟩
  have base : Sim C ⟨x.n, x.env, ⟨w.heap.size, e, size, ds⟩ :: x.S⟩ a (w.alloc (ob e cells)) := by
    refine ⟨h.defers, h.size, fun t ht => (h.env t ht).mono H, ⟨fun B hB => ?_, ?_⟩, ?_, h.ex, h.tab⟩
    · rcases List.mem_cons.1 hB with rfl | hB
      · refine ⟨by simp, cells, heap_alloc_new w _, hsz, ?_, fun i hi => ?_⟩
        · have := hr.1; simp at this; simp only; omega
        · have hi' : i < cells.toList.length := by rw [hr.1]; exact hi
          refine ⟨cells.toList[i], ?_, (hr.2 i hi hi').mono H⟩
          simp at hi'
          simp [hi']
      · obtain ⟨h0, cur, h1, h2, h3, h4⟩ := h.own.at_ B hB
        refine ⟨by simp; omega, cur, (getElem?_push_lt h0).trans h1, h2, h3, fun i hi => ?_⟩
        obtain ⟨u, hu, hq⟩ := h4 i hi
        exact ⟨u, hu, hq.mono H⟩
    · show (w.heap.size :: bks x.S).Nodup
      exact List.nodup_cons.2 ⟨fun hm => Nat.lt_irrefl _ (hlt _ (.inr hm)), h.own.apart⟩
    · refine ⟨h.fr.os, h.fr.tape, h.fr.output, by simp; have := h.fr.size; omega, fun b hb hn => ?_⟩
      obtain ⟨q1, q2⟩ := h.fr.block b hb hn
      have hb' := Nat.lt_of_lt_of_le hb h.fr.size
      refine ⟨(getElem?_push_lt hb').trans q1, fun hm => ?_⟩
      simp only [bks, List.map_cons, List.mem_cons] at hm
      rcases hm with hm | hm
      · omega
      · exact q2 hm
  exact base.put (hd _)

theorem Sim.new {C : Ctx} {a : Act} {w : World} (h : Sim C x a w) {t : Nat} {cells : Array Value} {e : TypeId} {ds : List D} {size : Nat} (hr : RepL w (live C.X x.S) ds cells.toList) (hsz : cells.size = size) {d : D} {v : Value}
  (hd : ∀ L, Rep (w.alloc (.cells cells e)) L d v) (hne : isMap e = false := by rfl) :
  Sim C ⟨x.n, (t, d) :: x.env, ⟨w.heap.size, e, size, ds⟩ :: x.S⟩ (a.put (some t) v) (w.alloc (.cells cells e)) := by
 have := Sim.newOb h (e := e) hr hsz (t := t) (d := d) (v := v) (fun L => by rw [ob_cells hne]; exact hd L)
 rw [ob_cells hne] at this
 exact this

theorem Chg.alloc (w : World) (ob : Obj) : Chg [] w (w.alloc ob) := ⟨by simp, fun b hb _ => getElem?_push_lt hb⟩

theorem Fr.alloc (w : World) (ob : Obj) (S : List Nat) : Fr w S (w.alloc ob) (w.heap.size :: S) :=
 ⟨rfl, rfl, rfl, by simp, fun b hb hn => ⟨getElem?_push_lt hb, fun hm => by
  rcases List.mem_cons.1 hm with hm | hm
  ·omega
  ·exact hn hm⟩⟩

def newBox (x : St) (t : Nat) (e : TypeId) (ds : List D) (y : St) : Prop := ∃ b, y = ⟨x.n, (t, .v (.pointer (some ⟨b, 0, none⟩))) :: x.env, ⟨b, e, ds.length, ds⟩ :: x.S⟩

theorem eff_alloc {e : TypeId} {z : Value} {t : Nat} {ds : List D} (ho : o.op = .alloc e) (hd : o.dst = some t) (hz : ∀ w, (zeroValue e).run P w = .ok z w) (hds : z.cells.toList.map .v = ds) (hne : isMap e = false := by rfl) : Eff P G x o [] (newBox x t e ds) := fun C a w K Q hG h hK => by
 subst hds
 unfold Oper.wp
 have : (execOp a.eval o).run P w = .ok (.value (.pointer (some ⟨w.heap.size, 0, none⟩))) (w.alloc (.cells z.cells e)) := by
  unfold execOp
  simp [ho, Instr.alloc, hz, newVar, newRow]
 rw [this, Oper.upon_value, hd]
 refine hK _ _ _ ⟨w.heap.size, rfl⟩ (h.new (ds := z.cells.toList.map .v) ⟨by simp, fun i q1 q2 => ?_⟩ (by simp) (fun L => .v _) hne) (Chg.alloc _ _) (Fr.alloc _ _ _)
 simp only [List.getElem_map]
 exact .v _

theorem eff_box {e : TypeId} {y : Operand} {t : Nat} {d : D} {ds : List D} (ho : o.op = .box e y) (hd : o.dst = some t) (hy : opd x y = d) (hj : d ≠ .junk) (hds : cellsOf d = ds) (hne : isMap e = false := by rfl) : Eff P G x o [] (newBox x t e ds) := fun C a w K Q hG h hK => by
 subst hds
 unfold Oper.wp
 have : (execOp a.eval o).run P w = .ok (.value (.pointer (some ⟨w.heap.size, 0, none⟩))) (w.alloc (.cells (a.eval y).cells e)) := by
  unfold execOp
  simp [ho, Instr.box, newVar, newRow]
 rw [this, Oper.upon_value, hd]
 have hr := h.eval y
 rw [hy] at hr
 have hc := hr.cells hj
 refine hK _ _ _ ⟨w.heap.size, rfl⟩ (h.new (ds := cellsOf d) hc (by have := hc.1; simpa using this) (fun L => .v _) hne) (Chg.alloc _ _) (Fr.alloc _ _ _)

end Go.Proofs.Ythnobhekodiciaa.V

namespace Go.Proofs.Ythnobhekodiciaa.V
open Go.RowKit
set_option linter.unusedVariables false
set_option linter.unusedSimpArgs false

variable {P : Program} {G : List (Nat × List Value)} {x : St} {o : Oper}

/-! ### Structs and lists that are built -/

def setAll (cs : List D) (off : Nat) : List D → List D
 | [] => cs
 | d :: r => setAll (cs.set off d) (off + 1) r

def fillD (place : Nat → Option (Nat × Nat)) (cells : List D) : List (Nat × D) → Option (List D)
 | [] => some cells
 | (i, d) :: rest =>
  match place i with
  | none => none
  | some (off, size) => if (cellsOf d).length ≠ size || off + (cellsOf d).length > cells.length then none else fillD place (setAll cells off (cellsOf d)) rest

theorem RepL.set {w : World} {L : Nat → Prop} {ds : List D} {vs : List Value} (h : RepL w L ds vs) (i : Nat) {d : D} {v : Value} (hd : Rep w L d v) : RepL w L (ds.set i d) (vs.set i v) :=
 ⟨by simp [h.1], fun j h1 h2 => by
  rw [List.getElem_set, List.getElem_set]
  split
  ·exact hd
  ·exact h.2 j _ _⟩

theorem RepL.tail {w : World} {L : Nat → Prop} {d : D} {ds : List D} {v : Value} {vs : List Value} (h : RepL w L (d :: ds) (v :: vs)) : Rep w L d v ∧ RepL w L ds vs :=
 ⟨h.2 0 (by simp) (by simp), by simpa using h.1, fun i h1 h2 => h.2 (i + 1) (by simpa using h1) (by simpa using h2)⟩

theorem zip_shift {β : Type} (f : β → Value → Nat → β) : ∀ (r : List Value) (k : Nat) (z : β), (r.zipIdx (k + 1)).foldl (fun c (x : Value × Nat) => f c x.1 x.2) z = (r.zipIdx k).foldl (fun c (x : Value × Nat) => f c x.1 (x.2 + 1)) z
 | [], _, _ => rfl
 | v :: r, k, z => by
  simp only [List.zipIdx_cons, List.foldl_cons]
  exact zip_shift f r (k + 1) _

theorem RepL.setAll {w : World} {L : Nat → Prop} : ∀ (ds : List D) (vs : List Value) (cs : List D) (cells : List Value) (off : Nat), RepL w L ds vs → RepL w L cs cells → RepL w L (setAll cs off ds) (vs.zipIdx.foldl (fun cs (c, j) => cs.set (off + j) c) cells)
 | [], [], cs, cells, off, _, h => h
 | [], _ :: _, _, _, _, h, _ => by simp [RepL] at h
 | _ :: _, [], _, _, _, h, _ => by simp [RepL] at h
 | d :: ds, v :: vs, cs, cells, off, h, hc => by
  obtain ⟨h0, h1⟩ := h.tail
  have ih := RepL.setAll ds vs (cs.set off d) (cells.set off v) (off + 1) h1 (hc.set off h0)
  have e : (v :: vs).zipIdx.foldl (fun cs (x : Value × Nat) => cs.set (off + x.2) x.1) cells = vs.zipIdx.foldl (fun cs (x : Value × Nat) => cs.set (off + 1 + x.2) x.1) (cells.set off v) := by
   rw [List.zipIdx_cons, List.foldl_cons, Nat.add_zero, zip_shift (fun (c : List Value) v n => c.set (off + n) v)]
   congr 1
   funext a b
   rw [Nat.add_assoc, Nat.add_comm 1]
  rw [e]
  exact ih

theorem foldl_arr : ∀ (l : List (Value × Nat)) (cells : Array Value) (off : Nat), (l.foldl (fun cs (x : Value × Nat) => cs.setIfInBounds (off + x.2) x.1) cells).toList = l.foldl (fun cs (x : Value × Nat) => cs.set (off + x.2) x.1) cells.toList
 | [], _, _ => rfl
 | (v, j) :: l, cells, off => by
  simp only [List.foldl_cons]
  rw [foldl_arr l]
  simp

theorem fill_rep {w : World} {L : Nat → Prop} (place : Nat → Option (Nat × Nat)) : ∀ (parts : List (Nat × D)) (vals : List (Nat × Value)) (cs : List D) (cells : Array Value) (ds : List D),
  parts.length = vals.length → (∀ i (h : i < parts.length) (h' : i < vals.length), parts[i].1 = vals[i].1 ∧ parts[i].2 ≠ .junk ∧ Rep w L parts[i].2 vals[i].2) → RepL w L cs cells.toList → fillD place cs parts = some ds →
  ∃ cells', Instr.fill place cells vals = some cells' ∧ RepL w L ds cells'.toList
 | [], [], cs, cells, ds, _, _, hc, hf => by
  simp only [fillD, Option.some.injEq] at hf
  subst hf
  exact ⟨cells, rfl, hc⟩
 | [], _ :: _, _, _, _, h, _, _, _ => by simp at h
 | _ :: _, [], _, _, _, h, _, _, _ => by simp at h
 | (i, d) :: parts, (j, v) :: vals, cs, cells, ds, hl, hp, hc, hf => by
  obtain ⟨h1, h2, h3⟩ := hp 0 (by simp) (by simp)
  simp only [List.getElem_cons_zero] at h1 h2 h3
  subst h1
  have hcd := h3.cells h2
  have hcl : v.cells.size = (cellsOf d).length := by have := hcd.1; simpa using this
  have hsz : cells.size = cs.length := by have := hc.1; simpa using this
  unfold fillD at hf
  unfold Instr.fill
  cases hpl : place i with
  | none => rw [hpl] at hf; simp at hf
  | some os =>
   obtain ⟨off, size⟩ := os
   simp only [hpl] at hf ⊢
   rw [hcl, hsz]
   split at hf
   ·cases hf
   ·rename_i hn
    rw [if_neg hn]
    refine fill_rep place parts vals _ _ ds (by simpa using hl) (fun i h h' => hp (i + 1) (by simpa using h) (by simpa using h')) ?_ hf
    have := RepL.setAll (w := w) (L := L) (cellsOf d) v.cells.toList cs cells.toList off hcd hc
    rw [← foldl_arr] at this
    have e : v.cells.zipIdx.foldl (fun cs (x : Value × Nat) => cs.setIfInBounds (off + x.2) x.1) cells = v.cells.toList.zipIdx.foldl (fun cs (x : Value × Nat) => cs.setIfInBounds (off + x.2) x.1) cells := by
     rw [← Array.foldl_toList, Array.toList_zipIdx]
    rw [e]
    exact this

theorem RepL.vals (w : World) (L : Nat → Prop) (vs : List Value) : RepL w L (vs.map .v) vs := ⟨by simp, fun i h1 h2 => by simp only [List.getElem_map]; exact .v _⟩

/-- The operands of a literal, by their places. -/
def partsD (x : St) (ps : Array (Nat × Operand)) : List (Nat × D) := ps.toList.map fun p => (p.1, opd x p.2)

theorem parts_rep {C : Ctx} {a : Act} {w : World} (h : Sim C x a w) (ps : Array (Nat × Operand)) (hj : ∀ p ∈ partsD x ps, p.2 ≠ .junk) : (partsD x ps).length = ((ps.map fun p => (p.1, a.eval p.2)).toList).length ∧
  ∀ i (h1 : i < (partsD x ps).length) (h2 : i < ((ps.map fun p => (p.1, a.eval p.2)).toList).length), (partsD x ps)[i].1 = ((ps.map fun p => (p.1, a.eval p.2)).toList)[i].1 ∧ (partsD x ps)[i].2 ≠ .junk ∧ Rep w (live C.X x.S) (partsD x ps)[i].2 ((ps.map fun p => (p.1, a.eval p.2)).toList)[i].2 := by
 refine ⟨by simp [partsD], fun i h1 h2 => ⟨?_, hj _ (List.getElem_mem h1), ?_⟩⟩
 ·simp [partsD]
 ·simp only [partsD, List.getElem_map, Array.toList_map]
  exact h.eval _

theorem still_build {t : TypeId} {ps : Array (Nat × Operand)} {fs : Array Field} {places : Array (Nat × Nat)} {z : Value} {ds : List D} (ho : o.op = .build t ps) (hz : ∀ w, (zeroValue t).run P w = .ok z w)
  (hu : ∀ w, (underlying t).run P w = .ok (.struct fs) w) (hp : ∀ w, (fs.mapM fun f => do pure (f.offset, ← sizeOf f.type) : Sem (Array (Nat × Nat))).run P w = .ok places w)
  (hj : ∀ p ∈ partsD x ps, p.2 ≠ .junk) (hd : fillD (places[·]?) (z.cells.toList.map .v) (partsD x ps) = some ds) : Still P G x o .none (.agg ds) := fun C a w _ h => by
 obtain ⟨q1, q2⟩ := parts_rep h ps hj
 obtain ⟨cells', h1, h2⟩ := fill_rep (w := w) (L := live C.X x.S) (places[·]?) (partsD x ps) ((ps.map fun p => (p.1, a.eval p.2)).toList) _ z.cells ds q1 q2 (RepL.vals _ _ _) hd
 refine ⟨.agg cells'.toList.toArray, .agg _ _ h2.1 h2.2, fun w' _ => ?_⟩
 unfold execOp
 simp only [ho, Instr.build, hz, hu, hp, Sem.run_bind, Result.andThen_ok, h1, Sem.run_pure, Array.toArray_toList]

def newRow' (x : St) (t : Nat) (e : TypeId) (len : Nat) (ds : List D) (y : St) : Prop := ∃ b, y = ⟨x.n, (t, .v (.slice (some ⟨b, 0, none⟩) len len)) :: x.env, ⟨b, e, ds.length, ds⟩ :: x.S⟩

theorem eff_buildSlice {t e : TypeId} {tt len sz : Nat} {ps : Array (Nat × Operand)} {z : Value} {zs : List D} {ds : List D} (ho : o.op = .buildSlice t len ps) (hdst : o.dst = some tt) (hz : ∀ w, (zeroValue e).run P w = .ok z w)
  (hu : ∀ w, (underlying t).run P w = .ok (.slice e) w) (hs : ∀ w, (sizeOf e).run P w = .ok sz w) (hl : 0 < len * sz) (hl2 : len * sz ≤ 2 ^ 24) (hzs : (Array.range (len * sz)).map (fun i => z.cells[i % z.cells.size]!) = (zs.map (fun d => match d with | .v u => u | _ => undef)).toArray) (hzv : ∀ d ∈ zs, ∃ u, d = .v u)
  (hj : ∀ p ∈ partsD x ps, p.2 ≠ .junk) (hd : fillD (fun i => some (i * sz, sz)) zs (partsD x ps) = some ds) (hne : isMap e = false := by rfl) : Eff P G x o [] (newRow' x tt e len ds) := fun C a w K Q hG h hK => by
 obtain ⟨q1, q2⟩ := parts_rep h ps hj
 have hzr : RepL w (live C.X x.S) zs ((zs.map (fun d => match d with | .v u => u | _ => undef)).toArray).toList := by
  refine ⟨by simp, fun i h1 h2 => ?_⟩
  obtain ⟨u, hu⟩ := hzv _ (List.getElem_mem h1)
  simp only [List.getElem_map, hu]
  exact .v _
 obtain ⟨cells', h1, h2⟩ := fill_rep (w := w) (L := live C.X x.S) (fun i => some (i * sz, sz)) (partsD x ps) ((ps.map fun p => (p.1, a.eval p.2)).toList) _ _ ds q1 q2 hzr hd
 unfold Oper.wp
 have : (execOp a.eval o).run P w = .ok (.value (.slice (some ⟨w.heap.size, 0, none⟩) len len)) (w.alloc (.cells cells' e)) := by
  unfold execOp
  have hne' : ¬ len * sz = 0 := by omega
  have hng : ¬ len * sz > 2 ^ 24 := by omega
  simp only [ho, Instr.buildSlice, hz, hu, hs, Sem.run_bind, Result.andThen_ok, Sem.run_pure, if_neg hne', if_neg hng, hzs, h1]
  simp [newRow]
 rw [this, Oper.upon_value, hdst]
 exact hK _ _ _ ⟨w.heap.size, rfl⟩ (h.new (ds := ds) h2 (by have := h2.1; simpa using this) (fun L => .v _) hne) (Chg.alloc _ _) (Fr.alloc _ _ _)

/-! ### Stores -/

theorem setCells_heap (b : Nat) : ∀ (vs : List Value) (o' : Nat) (w : World) (cur : Array Value) (e : TypeId), w.heap[b]? = some (.cells cur e (0, 0)) → o' + vs.length ≤ cur.size →
  (w.setCells b o' vs).heap[b]? = some (.cells (vs.zipIdx.foldl (fun cs (x : Value × Nat) => cs.setIfInBounds (o' + x.2) x.1) cur) e (0, 0)) ∧ (∀ k, k ≠ b → (w.setCells b o' vs).heap[k]? = w.heap[k]?) ∧ (w.setCells b o' vs).heap.size = w.heap.size ∧
  (w.setCells b o' vs).os = w.os ∧ (w.setCells b o' vs).tape = w.tape ∧ (w.setCells b o' vs).output = w.output
 | [], o', w, cur, e, h, _ => ⟨h, fun _ _ => rfl, rfl, rfl, rfl, rfl⟩
 | v :: r, o', w, cur, e, h, hl => by
  have h0 : (w.setCell ⟨b, o', none⟩ v).heap[b]? = some (.cells (cur.setIfInBounds o' v) e (0, 0)) := by
   simp [World.setCell, Array.getElem?_modify, h]
  obtain ⟨i1, i2, i3, i4, i5, i6⟩ := setCells_heap b r (o' + 1) (w.setCell ⟨b, o', none⟩ v) (cur.setIfInBounds o' v) e h0 (by simp at hl ⊢; omega)
  refine ⟨?_, fun k hk => ?_, ?_, i4, i5, i6⟩
  ·rw [World.setCells, i1, List.zipIdx_cons, List.foldl_cons, Nat.add_zero, zip_shift (fun (c : Array Value) v n => c.setIfInBounds (o' + n) v)]
   congr 3
   funext a b
   rw [Nat.add_assoc, Nat.add_comm 1]
  ·rw [World.setCells, i2 k hk, Below.heap_setCell _ _ _ _ hk]
  ·rw [World.setCells, i3]; simp

theorem setAll_length : ∀ (ds cs : List D) (off : Nat), (setAll cs off ds).length = cs.length
 | [], cs, off => rfl
 | d :: ds, cs, off => by rw [setAll, setAll_length ds]; simp

/-- A store into an owned block. -/
theorem Sim.store {C : Ctx} {a : Act} {w : World} (h : Sim C x a w) {k o' : Nat} {B : Blk} {ds : List D} {vs : List Value} (hk : x.S[k]? = some B) (hr : RepL w (live C.X x.S) ds vs) (hl : o' + ds.length ≤ B.cs.length) (hne : isMap B.e = false := by rfl) :
    Sim C ⟨x.n, x.env, x.S.set k { B with cs := setAll B.cs o' ds }⟩ a (w.setCells B.b o' vs) ∧ Chg [B.b] w (w.setCells B.b o' vs) ∧ Fr w (bks x.S) (w.setCells B.b o' vs) (bks (x.S.set k { B with cs := setAll B.cs o' ds })) := by
  obtain ⟨h0, cur, h1, h2, h3, h4⟩ := h.blk hk
  rw [ob_cells hne] at h1
  have hvl : vs.length = ds.length := hr.1
  obtain ⟨i1, i2, i3, i4, i5, i6⟩ := setCells_heap B.b vs o' w cur B.e h1 (by omega)
  have hkl : k < x.S.length := (List.getElem?_eq_some_iff.1 hk).1
  have hkB : x.S[k] = B := (List.getElem?_eq_some_iff.1 hk).2
  have hbks : bks (x.S.set k { B with cs := setAll B.cs o' ds }) = bks x.S := by
    unfold bks
    rw [List.map_set]
    apply List.ext_getElem (by simp)
    intro i q1 q2
    rw [List.getElem_set]
    split
    · rename_i e; subst e; simp [hkB]
    · rfl
  have hlive : live C.X (x.S.set k { B with cs := setAll B.cs o' ds }) = live C.X x.S := by funext b; simp only [live, hbks]
  have hB : live C.X x.S B.b := live_blk hk
  have H : ∀ b, b < w.heap.size → ¬ live C.X x.S b → (w.setCells B.b o' vs).heap[b]? = w.heap[b]? ∧ ¬ live C.X x.S b := fun b _ hn => ⟨i2 b (fun e => hn (e ▸ hB)), hn⟩
  refine ⟨⟨h.defers, h.size, fun t ht => ?_, ⟨fun B' hB' => ?_, ?_⟩, ?_, h.ex, h.tab⟩, ⟨by rw [i3]; exact Nat.le_refl _, fun b _ hn => i2 b (by simpa using hn)⟩, ?_⟩
  · simp only [hlive]; exact (h.env t ht).mono H
  · simp only [hlive]
    obtain ⟨j, hj, hje⟩ := List.mem_iff_getElem.1 hB'
    rw [List.length_set] at hj
    rw [List.getElem_set] at hje
    by_cases e : k = j
    · rw [if_pos e] at hje
      subst hje
      refine ⟨by rw [i3]; exact h0, _, i1.trans (by rw [ob_cells hne]), ?_, by simp only [setAll_length]; exact h3, fun i hi => ?_⟩
      · have := foldl_arr vs.zipIdx cur o'
        have hlen := congrArg List.length this
        have hgen : ∀ (l : List (Value × Nat)) (c : List Value), (l.foldl (fun cs (x : Value × Nat) => cs.set (o' + x.2) x.1) c).length = c.length := by
          intro l; induction l with
          | nil => intro c; rfl
          | cons p l ih => intro c; rw [List.foldl_cons, ih]; simp
        rw [hgen] at hlen
        simp only [Array.length_toList] at hlen
        rw [hlen, h2]
      · have hcs : RepL w (live C.X x.S) B.cs (cur.toList.take B.cs.length) := by
          refine ⟨by simp; omega, fun i q1 q2 => ?_⟩
          obtain ⟨u, hu, hq⟩ := h4 i q1
          have : (cur.toList.take B.cs.length)[i] = u := by
            rw [List.getElem_take]
            rw [← Array.getElem?_toList, List.getElem?_eq_some_iff] at hu
            exact hu.2
          rw [this]; exact hq
        have hset := RepL.setAll ds vs B.cs (cur.toList.take B.cs.length) o' hr hcs
        have htake : ∀ (l : List (Value × Nat)) (c : List Value), (∀ p ∈ l, o' + p.2 < B.cs.length) → l.foldl (fun cs (x : Value × Nat) => cs.set (o' + x.2) x.1) (c.take B.cs.length) = (l.foldl (fun cs (x : Value × Nat) => cs.set (o' + x.2) x.1) c).take B.cs.length := by
          intro l; induction l with
          | nil => intro c _; rfl
          | cons p l ih =>
            intro c hp
            rw [List.foldl_cons, List.foldl_cons, ← ih _ (fun q hq => hp q (List.mem_cons_of_mem _ hq)), List.take_set]
        rw [htake vs.zipIdx cur.toList (fun p hp => by have := List.mem_zipIdx hp; omega), ← foldl_arr] at hset
        simp only at hi
        have hi' := hi
        rw [← hset.1] at hi'
        have hq := hset.2 i hi hi'
        rw [List.getElem_take] at hq
        refine ⟨_, ?_, hq.mono H⟩
        rw [← Array.getElem?_toList, List.getElem?_eq_getElem]
    · rw [if_neg e] at hje
      subst hje
      have hne : x.S[j].b ≠ B.b := fun he => by
        have hn := h.own.apart
        have h1' : (bks x.S)[j]'(by simpa [bks] using hj) = (bks x.S)[k]'(by simpa [bks] using hkl) := by simp [bks, he, hkB]
        have hp := List.pairwise_iff_getElem.1 hn
        rcases Nat.lt_trichotomy j k with hjk | hjk | hjk
        · exact hp j k (by simpa [bks] using hj) (by simpa [bks] using hkl) hjk h1'
        · exact e hjk.symm
        · exact hp k j (by simpa [bks] using hkl) (by simpa [bks] using hj) hjk h1'.symm
      obtain ⟨r0, cur', r1, r2, r3, r4⟩ := h.own.at_ x.S[j] (List.getElem_mem hj)
      refine ⟨by rw [i3]; exact r0, cur', (i2 _ hne).trans r1, r2, r3, fun i hi => ?_⟩
      obtain ⟨u, hu, hq⟩ := r4 i hi
      exact ⟨u, hu, hq.mono H⟩
  · simp only [hbks]; exact h.own.apart
  · refine ⟨i4.trans h.fr.os, i5.trans h.fr.tape, i6.trans h.fr.output, by rw [i3]; exact h.fr.size, fun b hb hn => ?_⟩
    obtain ⟨q1, q2⟩ := h.fr.block b hb hn
    refine ⟨(i2 b (fun e => q2 (e ▸ List.mem_map.2 ⟨B, List.mem_of_getElem? hk, rfl⟩))).trans q1, ?_⟩
    simp only [hbks]; exact q2
  · rw [hbks]
    exact ⟨i4, i5, i6, by rw [i3]; exact Nat.le_refl _, fun b hb hn => ⟨i2 b (fun e => hn (e ▸ List.mem_map.2 ⟨B, List.mem_of_getElem? hk, rfl⟩)), hn⟩⟩

theorem eff_store {t : TypeId} {k b o' n : Nat} {B : Blk} {d : D} {cs' : List D} {y z : Operand} (ho : o.op = .store t y z) (hdst : o.dst = none) (hy : opd x y = .v (.pointer (some ⟨b, o', none⟩)))
  (hk : x.S[k]? = some B) (hb : B.b = b) (hz : opd x z = d) (hj : d ≠ .junk) (h1 : (cellsOf d).all one = true) (hn : ∀ w, (sizeOf t).run P w = .ok n w) (hln : (cellsOf d).length = n) (hl : o' + n ≤ B.cs.length) (hcs : setAll B.cs o' (cellsOf d) = cs') (hne : isMap B.e = false := by rfl) :
  Eff P G x o [b] (fun y => y = ⟨x.n, x.env, x.S.set k { B with cs := cs' }⟩) := fun C a w K Q hG h hK => by
 subst hcs hb
 have hr := h.eval z
 rw [hz] at hr
 have hc := hr.cells hj
 obtain ⟨s1, s2, s3⟩ := h.store hk hc (o' := o') (by omega) hne
 obtain ⟨h0, cur, q1, q2, q3, q4⟩ := h.blk hk
 rw [ob_cells hne] at q1
 have hvl : (a.eval z).cells.toList.length = n := by rw [hc.1, hln]
 have hrun := run_storeCells_cells (P := P) B.b o' (a.eval z).cells.toList 0 w (fun j hj => by
   have : (o' + 0 + j) < cur.size := by omega
   rw [cell_blk q1 (u := cur[o' + 0 + j]) (by simp [this])]; rfl)
  (fun j hj => by unfold World.frozen?; simp [q1]) (fun v hv => by
   obtain ⟨j, hj, rfl⟩ := List.mem_iff_getElem.1 hv
   have hj' : j < (cellsOf d).length := by rw [← hc.1]; exact hj
   exact (hc.2 j hj' hj).one_cell (List.all_eq_true.1 h1 _ (List.getElem_mem hj')))
 have hrun2 : (execOp a.eval o).run P w = .ok .skip (w.setCells B.b o' (a.eval z).cells.toList) := by
  unfold execOp
  have hsz : (a.eval z).cells.size = n := by simpa using hvl
  simp only [Nat.add_zero] at hrun
  simp [ho, h.flat hy, Instr.storeAt, Instr.sureAddr, storeVar, hn, hsz, hrun]
 unfold Oper.wp
 rw [hrun2, Oper.upon_skip, hdst]
 exact hK _ _ _ rfl s1 s2 s3

end Go.Proofs.Ythnobhekodiciaa.V

namespace Go.Proofs.Ythnobhekodiciaa.V
open Go.RowKit
set_option linter.unusedVariables false
set_option linter.unusedSimpArgs false

variable {P : Program} {G : List (Nat × List Value)} {x : St} {o : Oper}

/-! ### A contract -/

structure Pre (G : List (Nat × List Value)) (X : Nat → Prop) (w : World) (S : List Blk) (args : List D) (vs : List Value) : Prop where
 ex : ∀ b, X b → b < w.heap.size ∧ b ∉ bks S
 tab : ∀ g ∈ G, (g.1 < w.heap.size ∧ g.1 ∉ bks S ∧ ¬ X g.1) ∧ ∀ i v, g.2[i]? = some v → tabCell w g.1 i v
 own : Own w (live X S) S
 args : RepL w (live X S) args vs

/-- Called with what reads as 'args', where it owns S, f returns what meets 'post'. -/
def VC (P : Program) (G : List (Nat × List Value)) (f : FuncId) (args : List D) (S : List Blk) (post : D → List Blk → Prop) : Prop :=
  ∀ (X : Nat → Prop) (w : World) (vs : List Value), Pre G X w S args vs → Calls P f vs.toArray w fun e w' => ∃ v r S', e = .returned v ∧ post r S' ∧ Own w' (live X S') S' ∧ Rep w' (live X S') r v ∧ Fr w (bks S) w' (bks S')

theorem VC.mono {f : FuncId} {args : List D} {S : List Blk} {post post' : D → List Blk → Prop} (h : VC P G f args S post) (k : ∀ r S', post r S' → post' r S') : VC P G f args S post' := fun X w vs hp =>
 (h X w vs hp).mono fun e w' ⟨v, r, S', h1, h2, h3⟩ => ⟨v, r, S', h1, k r S' h2, h3⟩

/-- A contract that returns one thing, with no blocks of one's own. -/
abbrev VP (P : Program) (G : List (Nat × List Value)) (f : FuncId) (args : List D) (r : D) : Prop := VC P G f args [] fun r' S' => r' = r ∧ S' = []

theorem live_perm {X : Nat → Prop} {S Sf R : List Blk} (hp : S.Perm (Sf ++ R)) : live X S = live (fun b => X b ∨ b ∈ bks R) Sf := by
 funext b
 have : (bks S).Perm (bks Sf ++ bks R) := by have := hp.map Blk.b; simpa [bks] using this
 have := this.mem_iff (a := b)
 simp only [live, List.mem_append] at *
 rw [this]
 exact propext ⟨fun h => by rcases h with h | h | h <;> simp [h], fun h => by rcases h with (h | h) | h <;> simp [h]⟩

/-- The call. -/
theorem Sim.call {C : Ctx} {a : Act} {w : World} (h : Sim C x a w) (hG : C.G = G) {f : FuncId} {args : List D} {vs : List Value} {Sf R : List Blk} {post : D → List Blk → Prop} (hc : VC P G f args Sf post) (hp : x.S.Perm (Sf ++ R)) (hr : RepL w (live C.X x.S) args vs) :
    Calls P f vs.toArray w fun e w' => ∃ v r S', e = .returned v ∧ post r S' ∧ Rep w' (live C.X (S' ++ R)) r v ∧ Sim C ⟨x.n, x.env, S' ++ R⟩ a w' ∧ Chg (bks Sf) w w' ∧ Fr w (bks x.S) w' (bks (S' ++ R)) := by
  have hb : (bks x.S).Perm (bks Sf ++ bks R) := by have := hp.map Blk.b; simpa [bks] using this
  have hL := live_perm (X := C.X) hp
  have hnd : (bks Sf ++ bks R).Nodup := hb.nodup_iff.1 h.own.apart
  obtain ⟨n1, n2, n3⟩ := List.nodup_append.1 hnd
  have hRlt : ∀ b, b ∈ bks R → b < w.heap.size := fun b hbm => by
    obtain ⟨B, hB, rfl⟩ := List.mem_map.1 hbm
    exact (h.own.at_ B (hp.symm.subset (List.mem_append_right _ hB))).1
  have hpre : Pre G (fun b => C.X b ∨ b ∈ bks R) w Sf args vs := by
    refine ⟨fun b hx => ?_, fun g hg => ?_, ⟨fun B hB => ?_, n1⟩, ?_⟩
    · rcases hx with hx | hx
      · obtain ⟨q1, q2⟩ := h.ex b hx
        exact ⟨Nat.lt_of_lt_of_le q1 h.fr.size, fun hm => (h.fr.block b q1 q2).2 (hb.symm.subset (List.mem_append_left _ hm))⟩
      · exact ⟨hRlt b hx, fun hm => n3 b hm b hx rfl⟩
    · rw [← hG] at hg
      obtain ⟨⟨q1, q2, q3⟩, q4⟩ := h.tab g hg
      have q5 := (h.fr.block g.1 q1 q2).2
      refine ⟨⟨Nat.lt_of_lt_of_le q1 h.fr.size, fun hm => q5 (hb.symm.subset (List.mem_append_left _ hm)), fun hx => ?_⟩, fun i v hi => h.tabAt hg hi⟩
      rcases hx with hx | hx
      · exact q3 hx
      · exact q5 (hb.symm.subset (List.mem_append_right _ hx))
    · rw [← hL]; exact h.own.at_ B (hp.symm.subset (List.mem_append_left _ hB))
    · rw [← hL]; exact hr
  refine (hc _ w vs hpre).mono fun e w' ⟨v, r, S', h1, h2, h3, h4, h5⟩ => ⟨v, r, S', h1, h2, ?_, ?_, ⟨h5.size, fun b hb' hn => (h5.block b hb' hn).1⟩, ?_⟩
  · have : live C.X (S' ++ R) = live (fun b => C.X b ∨ b ∈ bks R) S' := live_perm (List.Perm.refl _)
    rw [this]; exact h4
  · have hL' : live C.X (S' ++ R) = live (fun b => C.X b ∨ b ∈ bks R) S' := live_perm (List.Perm.refl _)
    have H : ∀ b, b < w.heap.size → ¬ live C.X x.S b → w'.heap[b]? = w.heap[b]? ∧ ¬ live C.X (S' ++ R) b := fun b hlt hn => by
      rw [hL] at hn
      have hnSf : b ∉ bks Sf := fun hm => hn (.inr hm)
      obtain ⟨q1, q2⟩ := h5.block b hlt hnSf
      refine ⟨q1, fun hl => ?_⟩
      rw [hL'] at hl
      rcases hl with hl | hl
      · exact hn (.inl hl)
      · exact q2 hl
    refine ⟨h.defers, h.size, fun t ht => (h.env t ht).mono H, ⟨fun B hB => ?_, ?_⟩, ?_, h.ex, h.tab⟩
    · rcases List.mem_append.1 hB with hB | hB
      · have := h3.at_ B hB
        rw [← hL'] at this; exact this
      · obtain ⟨r0, cur, r1, r2, r3, r4⟩ := h.own.at_ B (hp.symm.subset (List.mem_append_right _ hB))
        have hBm : B.b ∈ bks R := List.mem_map.2 ⟨B, hB, rfl⟩
        have hnSf : B.b ∉ bks Sf := fun hm => n3 B.b hm B.b hBm rfl
        have hh := (h5.block B.b r0 hnSf).1
        refine ⟨lt_of_same r0 hh, cur, hh.trans r1, r2, r3, fun i hi => ?_⟩
        obtain ⟨u, hu, hq⟩ := r4 i hi
        exact ⟨u, hu, hq.mono H⟩
    · show (bks (S' ++ R)).Nodup
      have : bks (S' ++ R) = bks S' ++ bks R := by simp [bks]
      rw [this]
      refine List.nodup_append.2 ⟨h3.apart, n2, fun b hb1 c hc1 he => ?_⟩
      subst he
      have hnSf : b ∉ bks Sf := fun hm => n3 b hm b hc1 rfl
      exact (h5.block b (hRlt b hc1) hnSf).2 hb1
    · refine ⟨h5.os.trans h.fr.os, h5.tape.trans h.fr.tape, h5.output.trans h.fr.output, Nat.le_trans h.fr.size h5.size, fun b hb' hn => ?_⟩
      obtain ⟨q1, q2⟩ := h.fr.block b hb' hn
      have hn1 : b ∉ bks Sf := fun hm => q2 (hb.symm.subset (List.mem_append_left _ hm))
      have hn2 : b ∉ bks R := fun hm => q2 (hb.symm.subset (List.mem_append_right _ hm))
      obtain ⟨q3, q4⟩ := h5.block b (Nat.lt_of_lt_of_le hb' h.fr.size) hn1
      refine ⟨q3.trans q1, fun hm => ?_⟩
      have : bks (S' ++ R) = bks S' ++ bks R := by simp [bks]
      rw [this] at hm
      rcases List.mem_append.1 hm with hm | hm
      · exact q4 hm
      · exact hn2 hm
  · refine ⟨h5.os, h5.tape, h5.output, h5.size, fun b hb' hn => ?_⟩
    have hn1 : b ∉ bks Sf := fun hm => hn (hb.symm.subset (List.mem_append_left _ hm))
    have hn2 : b ∉ bks R := fun hm => hn (hb.symm.subset (List.mem_append_right _ hm))
    obtain ⟨q3, q4⟩ := h5.block b hb' hn1
    refine ⟨q3, fun hm => ?_⟩
    have : bks (S' ++ R) = bks S' ++ bks R := by simp [bks]
    rw [this] at hm
    rcases List.mem_append.1 hm with hm | hm
    · exact q4 hm
    · exact hn2 hm

theorem RepL.opds {C : Ctx} {a : Act} {w : World} (h : Sim C x a w) (ars : List Operand) : RepL w (live C.X x.S) (ars.map (opd x)) (ars.map a.eval) :=
 ⟨by simp, fun i h1 h2 => by simp only [List.getElem_map]; exact h.eval _⟩

theorem RepL.append {w : World} {L : Nat → Prop} {ds ds' : List D} {vs vs' : List Value} (h : RepL w L ds vs) (h' : RepL w L ds' vs') : RepL w L (ds ++ ds') (vs ++ vs') :=
 ⟨by simp [h.1, h'.1], fun i h1 h2 => by
  by_cases hi : i < ds.length
  ·rw [List.getElem_append_left hi, List.getElem_append_left (by rw [h.1]; exact hi)]
   exact h.2 i _ _
  ·rw [List.getElem_append_right (by omega), List.getElem_append_right (by rw [h.1]; omega)]
   have := h.1
   simp only [this]
   exact h'.2 _ _ _⟩

def called (x : St) (t : Nat) (R : List Blk) (post : D → List Blk → Prop) (y : St) : Prop := ∃ r S', post r S' ∧ y = ⟨x.n, (t, r) :: x.env, S' ++ R⟩

/-- A call of a function, known by its number. -/
theorem eff_call {f t : Nat} {fo : Operand} {ars : Array Operand} {ts : Array TypeId} {args : List D} {Sf R : List Blk} {post : D → List Blk → Prop} (ho : o.op = .call { callee := .value fo, args := ars, argTypes := ts }) (hd : o.dst = some t)
    (hf : fo = .func f) (hcall : ∀ args w, (callFunc f args).run P w = .ok (.enter f args) w) (ha : ars.toList.map (opd x) = args) (hp : x.S.Perm (Sf ++ R)) (hc : VC P G f args Sf post) :
    Eff P G x o (bks Sf) (called x t R post) := fun C a w K Q hG h hK => by
  subst hf ha
  have hr := RepL.opds h ars.toList
  have hrun : (execOp a.eval o).run P w = .ok (.enter f (ars.toList.map a.eval).toArray) w := by
    unfold execOp
    have e : ars.map a.eval = (ars.toList.map a.eval).toArray := by
      rw [← Array.toList_map, Array.toArray_toList]
    simp only [ho, resolve, Act.eval, Deferred.ofValue, Sem.run_bind, Sem.run_pure, Result.andThen_ok, invoke, e]
    simp [hcall]
  unfold Oper.wp
  rw [hrun, Oper.upon_enter, hd]
  refine (h.call hG hc hp hr).mono fun e w' ⟨v, r, S', h1, h2, h3, h4, h5, h6⟩ => ?_
  subst h1
  exact hK _ _ _ ⟨r, S', h2, rfl⟩ (h4.put h3) h5 h6

/-- A call of a function value. -/
theorem eff_callv {f t : Nat} {fo : Operand} {ars : Array Operand} {ts : Array TypeId} {args caps : List D} {Sf R : List Blk} {post : D → List Blk → Prop} (ho : o.op = .call { callee := .value fo, args := ars, argTypes := ts }) (hd : o.dst = some t)
    (hf : opd x fo = .clo (.func f) caps) (hcall : ∀ args w, (callFunc f args).run P w = .ok (.enter f args) w) (ha : ars.toList.map (opd x) ++ caps = args) (hp : x.S.Perm (Sf ++ R)) (hc : VC P G f args Sf post) :
    Eff P G x o (bks Sf) (called x t R post) := fun C a w K Q hG h hK => by
  subst ha
  have hr := RepL.opds h ars.toList
  have hfv := h.eval fo
  rw [hf] at hfv
  generalize hg : a.eval fo = u at hfv
  cases hfv with
  | clo _ _ vs hl hcr =>
    have hrun : (execOp a.eval o).run P w = .ok (.enter f (ars.toList.map a.eval ++ vs).toArray) w := by
      unfold execOp
      have e : ars.map a.eval ++ vs.toArray = (ars.toList.map a.eval ++ vs).toArray := by
        rw [← List.append_toArray, ← Array.toList_map, Array.toArray_toList]
      simp only [ho, resolve, hg, Deferred.ofValue, Sem.run_bind, Sem.run_pure, Result.andThen_ok, invoke]
      simp [hcall]
    unfold Oper.wp
    rw [hrun, Oper.upon_enter, hd]
    refine (h.call hG hc hp (hr.append ⟨hl, hcr⟩)).mono fun e w' ⟨v, r, S', h1, h2, h3, h4, h5, h6⟩ => ?_
    subst h1
    exact hK _ _ _ ⟨r, S', h2, rfl⟩ (h4.put h3) h5 h6

theorem perm_pick {S : List Blk} {k : Nat} {B : Blk} (hk : S[k]? = some B) : S.Perm (B :: S.eraseIdx k) := by
 obtain ⟨h1, h2⟩ := List.getElem?_eq_some_iff.1 hk
 subst h2
 clear hk
 induction S generalizing k with
 | nil => simp at h1
 | cons A S ih =>
  cases k with
  | zero => exact List.Perm.refl _
  | succ k =>
   have h1' : k < S.length := by simpa using h1
   rw [List.eraseIdx_cons_succ]
   exact ((ih h1').cons A).trans (List.Perm.swap _ _ _)

theorem perm_none (S : List Blk) : S.Perm ([] ++ S) := List.Perm.refl _
theorem perm_one {S : List Blk} {k : Nat} {B : Blk} (hk : S[k]? = some B) : S.Perm ([B] ++ S.eraseIdx k) := perm_pick hk
/-! ### A list of one's own is given up to reading -/

/-- What lies in an owned block, as a list. -/
theorem Rep.given {w : World} {X : Nat → Prop} {S : List Blk} {k : Nat} {B : Blk} {sz n cap : Nat} (h : Own w (live X S) S) (hX : ∀ b, X b → b ∉ bks S) (hk : S[k]? = some B) (hl : B.cs.length = n * sz) (h1 : n ≤ cap) (h2 : cap ≤ maxLen) (hne : isMap B.e = false := by rfl) :
    Rep w (live X (S.eraseIdx k)) (.list sz B.cs n) (.slice (some ⟨B.b, 0, none⟩) n cap) := by
  have hm := List.mem_of_getElem? hk
  obtain ⟨r0, cur, r1, r2, r3, r4⟩ := h.at_ B hm
  rw [ob_cells hne] at r1
  have hsub : (bks (S.eraseIdx k)).Sublist (bks S) := List.Sublist.map _ (List.eraseIdx_sublist S k)
  have hL : ¬ live X (S.eraseIdx k) B.b := fun hl => by
    rcases hl with hl | hl
    · exact hX _ hl (List.mem_map.2 ⟨B, hm, rfl⟩)
    · have hp : (bks S).Perm (B.b :: bks (S.eraseIdx k)) := by have := (perm_pick hk).map Blk.b; simpa [bks] using this
      have hnd := hp.nodup_iff.1 h.apart
      exact (List.nodup_cons.1 hnd).1 hl
  refine .list sz B.cs n B.b 0 cap (fun i => cur.getD i undef) hl h1 h2 r0 hL (fun i hi => ?_) (fun i hi => ?_)
  · obtain ⟨u, hu, _⟩ := r4 i hi
    rw [Nat.zero_add, cell_blk r1 hu]
    simp [hu]
  · obtain ⟨u, hu, hq⟩ := r4 i hi
    simp only [Array.getD_eq_getD_getElem?, hu, Option.getD_some]
    exact hq.mono fun b _ hn => ⟨rfl, fun hl => hn (hl.imp id fun q => hsub.subset q)⟩

theorem Sim.exS {C : Ctx} {a : Act} {w : World} (h : Sim C x a w) : ∀ b, C.X b → b ∉ bks x.S := fun b hb => (h.fr.block b (h.ex b hb).1 (h.ex b hb).2).2

/-- A slot's own list becomes one that nobody writes any more; its block is given up. -/
theorem Wk.give {n : Nat} {l : List (Nat × D)} {S : List Blk} {k t m cap sz : Nat} {B : Blk} {cs : List D} (hk : S[k]? = some B) (ht : look t l = .v (.slice (some ⟨B.b, 0, none⟩) m cap)) (hcs : B.cs = cs) (hl : cs.length = m * sz) (h1 : m ≤ cap) (h2 : cap ≤ maxLen) (hne : isMap B.e = false := by rfl) :
    Wk ⟨n, l, S⟩ ⟨n, (t, .list sz cs m) :: l, S.eraseIdx k⟩ := fun C a w h => by
  subst hcs
  have hd := Wk.drop n l S (S.eraseIdx k) (List.eraseIdx_sublist S k) C a w h
  refine ⟨hd.defers, hd.size, fun i hi => ?_, hd.own, hd.fr, hd.ex, hd.tab⟩
  simp only [look_cons]
  by_cases e : t = i
  · subst e
    rw [if_pos rfl]
    have hv := h.env t hi
    simp only [ht] at hv
    rw [hv.v_eq]
    exact Rep.given h.own h.exS hk hl h1 h2 hne
  · rw [if_neg e]; exact hd.env i hi

/-- The nil slice is an empty list. -/
theorem Wk.giveNil {n : Nat} {l : List (Nat × D)} {S : List Blk} {t sz : Nat} (ht : look t l = .v (.slice none 0 0)) : Wk ⟨n, l, S⟩ ⟨n, (t, .list sz [] 0) :: l, S⟩ := fun C a w h => by
  refine ⟨h.defers, h.size, fun i hi => ?_, h.own, h.fr, h.ex, h.tab⟩
  simp only [look_cons]
  by_cases e : t = i
  · subst e
    rw [if_pos rfl]
    have hv := h.env t hi
    simp only [ht] at hv
    rw [hv.v_eq]
    exact .nil sz
  · rw [if_neg e]; exact h.env i hi

end Go.Proofs.Ythnobhekodiciaa.V

namespace Go.Proofs.Ythnobhekodiciaa.V
open Go.RowKit
set_option linter.unusedVariables false
set_option linter.unusedSimpArgs false

variable {P : Program} {G : List (Nat × List Value)} {x : St} {o : Oper}

def grownTo (x : St) (t : Nat) (e : TypeId) (sz len : Nat) (cs : List D) (S : List Blk) (y : St) : Prop :=
 ∃ b cap, len ≤ cap ∧ cap ≤ maxLen ∧ y = ⟨x.n, (t, .v (.slice (some ⟨b, 0, none⟩) len cap)) :: x.env, ⟨b, e, cap * sz, cs⟩ :: S⟩

/-- What append leaves, whatever the row appended to was. -/
theorem Sim.grown {C : Ctx} {a : Act} {w w' : World} (h : Sim C x a w) {t g cap e sz m : Nat} {row : Option Nat} {S : List Blk} {cs : List D} {cur : Array Value}
    (hS : S.Sublist x.S) (hrow : ∀ k, row = some k → k ∈ bks x.S ∧ k ∉ bks S) (hgrow : w.grownBy w' row) (hg : row = some g ∨ g = w.heap.size) (hlt : g < w'.heap.size)
    (hcur : w'.heap[g]? = some (.cells cur e (0, 0))) (hsz : cur.size = cap * sz) (hl : cs.length ≤ cap * sz) (hr : ∀ i (h : i < cs.length), ∃ u, cur[i]? = some u ∧ Rep w (live C.X x.S) cs[i] u) (hne : isMap e = false := by rfl) :
    Sim C ⟨x.n, (t, .v (.slice (some ⟨g, 0, none⟩) m cap)) :: x.env, ⟨g, e, cap * sz, cs⟩ :: S⟩ (a.put (some t) (.slice (some ⟨g, 0, none⟩) m cap)) w' ∧ Chg row.toList w w' ∧ Fr w (bks x.S) w' (bks (⟨g, e, cap * sz, cs⟩ :: S)) := by
  have hsub : (bks S).Sublist (bks x.S) := List.Sublist.map _ hS
  have hlt' : ∀ b, live C.X x.S b → b < w.heap.size := fun b hb => by
    rcases hb with hb | hb
    · exact Nat.lt_of_lt_of_le (h.ex b hb).1 h.fr.size
    · obtain ⟨B, hB, rfl⟩ := List.mem_map.1 hb
      exact (h.own.at_ B hB).1
  have hgS : g ∉ bks S := by
    rcases hg with hg | hg
    · exact (hrow g hg).2
    · intro hm; have := hlt' g (.inr (hsub.subset hm)); omega
  have hgX : ¬ C.X g := fun hx => by
    rcases hg with hg | hg
    · exact h.exS g hx (hrow g hg).1
    · have := hlt' g (.inl hx); omega
  have hgold : g < w.heap.size → g ∈ bks x.S := fun hlt => by
    rcases hg with hg | hg
    · exact (hrow g hg).1
    · omega
  have H : ∀ b, b < w.heap.size → ¬ live C.X x.S b → w'.heap[b]? = w.heap[b]? ∧ ¬ live C.X (⟨g, e, cap * sz, cs⟩ :: S) b := fun b hb hn => by
    refine ⟨hgrow.block b hb (fun hm => hn (.inr (hrow b hm.symm).1)), fun hl => ?_⟩
    rcases hl with hl | hl
    · exact hn (.inl hl)
    · simp only [bks, List.map_cons, List.mem_cons] at hl
      rcases hl with hl | hl
      · subst hl; exact hn (.inr (hgold hb))
      · exact hn (.inr (hsub.subset hl))
  have base : Sim C ⟨x.n, x.env, ⟨g, e, cap * sz, cs⟩ :: S⟩ a w' := by
    refine ⟨h.defers, h.size, fun t ht => (h.env t ht).mono H, ⟨fun B hB => ?_, ?_⟩, ?_, h.ex, h.tab⟩
    · rcases List.mem_cons.1 hB with rfl | hB
      · refine ⟨hlt, cur, hcur.trans (by rw [ob_cells hne]), hsz, hl, fun i hi => ?_⟩
        obtain ⟨u, hu, hq⟩ := hr i hi
        exact ⟨u, hu, hq.mono H⟩
      · obtain ⟨r0, cur', r1, r2, r3, r4⟩ := h.own.at_ B (hS.subset hB)
        have hBm : B.b ∈ bks S := List.mem_map.2 ⟨B, hB, rfl⟩
        have hh := hgrow.block B.b r0 (fun hm => (hrow B.b hm.symm).2 hBm)
        refine ⟨lt_of_same r0 hh, cur', hh.trans r1, r2, r3, fun i hi => ?_⟩
        obtain ⟨u, hu, hq⟩ := r4 i hi
        exact ⟨u, hu, hq.mono H⟩
    · show (g :: bks S).Nodup
      exact List.nodup_cons.2 ⟨hgS, h.own.apart.sublist hsub⟩
    · refine ⟨hgrow.os.trans h.fr.os, hgrow.tape.trans h.fr.tape, hgrow.output.trans h.fr.output, Nat.le_trans h.fr.size hgrow.size, fun b hb hn => ?_⟩
      obtain ⟨q1, q2⟩ := h.fr.block b hb hn
      have hb' := Nat.lt_of_lt_of_le hb h.fr.size
      refine ⟨(hgrow.block b hb' (fun hm => q2 (hrow b hm.symm).1)).trans q1, fun hm => ?_⟩
      simp only [bks, List.map_cons, List.mem_cons] at hm
      rcases hm with hm | hm
      · subst hm; exact q2 (hgold hb')
      · exact q2 (hsub.subset hm)
  refine ⟨base.put (.v _), ⟨hgrow.size, fun b hb hn => hgrow.block b hb (fun hm => hn (by rw [← hm]; simp))⟩, ⟨hgrow.os, hgrow.tape, hgrow.output, hgrow.size, fun b hb hn => ?_⟩⟩
  refine ⟨hgrow.block b hb (fun hm => hn (hrow b hm.symm).1), fun hm => ?_⟩
  simp only [bks, List.map_cons, List.mem_cons] at hm
  rcases hm with hm | hm
  · subst hm; exact hn (hgold hb)
  · exact hn (hsub.subset hm)

theorem run_append {s y : Operand} {t : Nat} {v v' : Value} {w w' : World} {a : Act} (ho : o.op = .call { callee := .builtin .append, args := #[s, y], argTypes := #[t, t] }) (hs : a.eval s = v) {u : Value} (hy : a.eval y = u)
  (hrun : (Builtin.append_ #[t, t] o.type #[v, u]).run P w = .ok v' w') : (execOp a.eval o).run P w = .ok (.value v') w' := by
 unfold execOp
 simp [ho, resolve, invoke, builtin, hs, hy, hrun]

theorem info_at {e sz bytes : Nat} {z : Value} (hi : (P.info? e).map (fun i => (i.zero, i.size, i.bytes)) = some (some z, sz, bytes)) : ∃ i, P.info? e = some i ∧ i.zero = some z ∧ i.size = sz ∧ i.bytes = bytes := by
 cases h : P.info? e with
 | none => simp [h] at hi
 | some i => simp [h] at hi; exact ⟨i, rfl, hi⟩

/-- append onto a row of one's own. -/
theorem eff_append {s y : Operand} {t e tt sz bytes n m b cap k : Nat} {z : Value} {B : Blk} {cs : List D} (ho : o.op = .call { callee := .builtin .append, args := #[s, y], argTypes := #[t, t] }) (hd : o.dst = some tt)
    (ht : P.underlying t = some (.slice e)) (hi : (P.info? e).map (fun i => (i.zero, i.size, i.bytes)) = some (some z, sz, bytes)) (hzs : z.cells.size = sz) (hsz : 0 < sz)
    (hs : opd x s = .v (.slice (some ⟨b, 0, none⟩) n cap)) (hk : x.S[k]? = some B) (hb : B.b = b) (he : B.e = e) (hsize : B.size = cap * sz) (hl : B.cs.length = n * sz) (hn : n ≤ cap) (hcap : cap ≤ maxLen)
    (hy : opd x y = .list sz cs m) (hone : ∀ d ∈ cs, one d = true) (hm : 0 < m) (h63 : n + m ≤ maxLen) (hbytes : (n + m) * bytes ≤ 140737488355328) (hne : isMap B.e = false := by rfl) :
    Eff P G x o [b] (grownTo x tt e sz (n + m) (B.cs ++ cs) (x.S.eraseIdx k)) := fun C a w K Q hG h hK => by
  subst hb he
  obtain ⟨i, hi1, hi2, hi3, hi4⟩ := info_at hi
  obtain ⟨r0, cur, r1, r2, r3, r4⟩ := h.blk hk
  rw [ob_cells hne] at r1
  have hr := h.eval y
  rw [hy] at hr
  generalize hg : a.eval y = u at hr
  cases hr with
  | void => omega
  | list _ _ _ b' o' cap' f hl' q1 q2 hb' hL hc hrr =>
    have hown : w.ownsRow 0 B.e sz (.slice (some ⟨B.b, 0, none⟩) n cap) n (cur.toList.take (n * sz)) :=
      ⟨by simp; omega, .inr ⟨B.b, cap, cur, rfl, Nat.zero_le _, r1, hn, hcap, by omega, rfl⟩⟩
    obtain ⟨v', w', hrun, h2, h3, _, h5⟩ := run_append_own_at (P := P) w 0 t o.type B.e i z sz bytes ht hi1 hi2 hi3 hi4 hzs hsz _ n _ hown ⟨b', o', none⟩ m cap' ((List.range cs.length).map f) (by simp [hl']) (fun j u hu => by
        rw [Addr.add_mid]
        obtain ⟨hj, he⟩ := List.getElem?_eq_some_iff.1 hu
        simp only [List.length_map, List.length_range] at hj
        rw [hc j hj, ← he]; simp) (fun u hu => by
        obtain ⟨j, hj, rfl⟩ := List.mem_map.1 hu
        have hj' := List.mem_range.1 hj
        exact (hrr j hj').one_cell (hone _ (List.getElem_mem hj'))) h63 hbytes (Nat.zero_le _)
    obtain ⟨g, cap2, rfl, _, hlt⟩ := h2.form (by omega)
    have h6 : (Value.slice (some ⟨B.b, 0, none⟩) n cap).ownBlock = some g ∨ g = w.heap.size := by
      rcases h5 with h5 | h5
      · exact .inl (by rw [← h5]; rfl)
      · right; simpa [Value.ownBlock] using h5
    obtain ⟨_, h2⟩ := h2
    rcases h2 with ⟨h2, _⟩ | ⟨g', cap', cur', e1, _, e2, e3, e4, e5, e6⟩
    · cases h2
    · have e1' : g = g' ∧ cap2 = cap' := by simpa using e1
      obtain ⟨rfl, rfl⟩ := e1'
      have hlen : (B.cs ++ cs).length = (n + m) * sz := by rw [List.length_append, hl, hl', Nat.add_mul]
      have hge : (n + m) * sz ≤ cap2 * sz := Nat.mul_le_mul_right _ e3
      have hcur : ∀ i, i < (n + m) * sz → cur'[i]? = (cur.toList.take (n * sz) ++ (List.range cs.length).map f)[i]? := fun i hi => by
        rw [← e6, List.getElem?_take_of_lt hi, Array.getElem?_toList]
      obtain ⟨s1, s2, s3⟩ := h.grown (t := tt) (m := n + m) (e := B.e) (sz := sz) (S := x.S.eraseIdx k) (cs := B.cs ++ cs) (row := some B.b) (g := g) (cap := cap2) (List.eraseIdx_sublist _ _) (fun k' hk' => by
          have : B.b = k' := by simpa using hk'
          subst this
          refine ⟨List.mem_map.2 ⟨B, List.mem_of_getElem? hk, rfl⟩, fun hm => ?_⟩
          have hp : (bks x.S).Perm (B.b :: bks (x.S.eraseIdx k)) := by have := (perm_pick hk).map Blk.b; simpa [bks] using this
          exact (List.nodup_cons.1 (hp.nodup_iff.1 h.own.apart)).1 hm) h3 h6 hlt e2 e5 (by omega) (fun i hi => by
          rw [hlen] at hi
          rw [hcur i hi]
          by_cases hin : i < n * sz
          · obtain ⟨u, hu, hq⟩ := r4 i (by omega)
            refine ⟨u, ?_, ?_⟩
            · rw [List.getElem?_append_left (by simp; omega), List.getElem?_take_of_lt hin, Array.getElem?_toList, hu]
            · rw [List.getElem_append_left (by omega)]; exact hq
          · have hin2 : i - n * sz < cs.length := by rw [hl']; rw [Nat.add_mul] at hi; omega
            refine ⟨f (i - n * sz), ?_, ?_⟩
            · rw [List.getElem?_append_right (by simp; omega)]
              have : (cur.toList.take (n * sz)).length = n * sz := by simp; omega
              rw [this]
              simp [hin2]
            · rw [List.getElem_append_right (by omega)]
              have := hrr (i - n * sz) hin2
              simp only [hl]
              exact this) hne
      unfold Oper.wp
      rw [run_append (P := P) ho (h.flat hs) hg hrun, Oper.upon_value, hd]
      exact hK _ _ _ ⟨g, cap2, e3, e4, rfl⟩ s1 s2 s3

/-- append onto nil. -/
theorem eff_appendNil {s y : Operand} {t e tt sz bytes m : Nat} {z : Value} {cs : List D} (ho : o.op = .call { callee := .builtin .append, args := #[s, y], argTypes := #[t, t] }) (hd : o.dst = some tt)
    (ht : P.underlying t = some (.slice e)) (hi : (P.info? e).map (fun i => (i.zero, i.size, i.bytes)) = some (some z, sz, bytes)) (hzs : z.cells.size = sz) (hsz : 0 < sz)
    (hs : opd x s = .v (.slice none 0 0)) (hy : opd x y = .list sz cs m) (hone : ∀ d ∈ cs, one d = true) (hm : 0 < m) (h63 : m ≤ maxLen) (hbytes : m * bytes ≤ 140737488355328) (hne : isMap e = false := by rfl) :
    Eff P G x o [] (grownTo x tt e sz m cs x.S) := fun C a w K Q hG h hK => by
  obtain ⟨i, hi1, hi2, hi3, hi4⟩ := info_at hi
  have hr := h.eval y
  rw [hy] at hr
  generalize hg : a.eval y = u at hr
  cases hr with
  | void => omega
  | list _ _ _ b' o' cap' f hl' q1 q2 hb' hL hc hrr =>
    have hown : w.ownsRow 0 e sz (.slice none 0 0) 0 [] := ⟨by simp, .inl ⟨rfl, rfl⟩⟩
    obtain ⟨v', w', hrun, h2, h3, _, h5⟩ := run_append_own_at (P := P) w 0 t o.type e i z sz bytes ht hi1 hi2 hi3 hi4 hzs hsz _ 0 _ hown ⟨b', o', none⟩ m cap' ((List.range cs.length).map f) (by simp [hl']) (fun j u hu => by
        rw [Addr.add_mid]
        obtain ⟨hj, he⟩ := List.getElem?_eq_some_iff.1 hu
        simp only [List.length_map, List.length_range] at hj
        rw [hc j hj, ← he]; simp) (fun u hu => by
        obtain ⟨j, hj, rfl⟩ := List.mem_map.1 hu
        have hj' := List.mem_range.1 hj
        exact (hrr j hj').one_cell (hone _ (List.getElem_mem hj'))) (by rw [Nat.zero_add]; exact h63) (by rw [Nat.zero_add]; exact hbytes) (Nat.zero_le _)
    simp only [Nat.zero_add, List.nil_append] at h2
    obtain ⟨g, cap2, rfl, _, hlt⟩ := h2.form (by omega)
    have h6 : (none : Option Nat) = some g ∨ g = w.heap.size := by
      rcases h5 with h5 | h5
      · simp [Value.ownBlock] at h5
      · right; simpa [Value.ownBlock] using h5
    obtain ⟨_, h2⟩ := h2
    rcases h2 with ⟨h2, _⟩ | ⟨g', cap', cur', e1, _, e2, e3, e4, e5, e6⟩
    · cases h2
    · have e1' : g = g' ∧ cap2 = cap' := by simpa using e1
      obtain ⟨rfl, rfl⟩ := e1'
      have hge : m * sz ≤ cap2 * sz := Nat.mul_le_mul_right _ e3
      obtain ⟨s1, s2, s3⟩ := h.grown (t := tt) (m := m) (e := e) (sz := sz) (S := x.S) (cs := cs) (row := none) (g := g) (cap := cap2) (List.Sublist.refl _) (fun k' hk' => by cases hk') h3 h6 hlt e2 e5 (by omega) (fun i hi => by
          refine ⟨f i, ?_, hrr i hi⟩
          have : cur'[i]? = ((List.range cs.length).map f)[i]? := by rw [← e6, List.getElem?_take_of_lt (by omega), Array.getElem?_toList]
          rw [this]; simp [hi]) hne
      unfold Oper.wp
      rw [run_append (P := P) ho (h.flat hs) hg hrun, Oper.upon_value, hd]
      exact hK _ _ _ ⟨g, cap2, e3, e4, rfl⟩ s1 s2 s3

/-- Nothing is appended. -/
theorem still_append0 {s y : Operand} {t e sz n cap : Nat} {ad : Option Addr} {cs : List D} (ho : o.op = .call { callee := .builtin .append, args := #[s, y], argTypes := #[t, t] })
    (hu : ∀ w, (underlying t).run P w = .ok (.slice e) w) (hsz : ∀ w, (sizeOf e).run P w = .ok sz w) (hs : opd x s = .v (.slice ad n cap)) (hn : n ≤ cap) (hy : opd x y = .list sz cs 0) : Still P G x o .none (.v (.slice ad n cap)) := fun C a w _ h => by
  refine ⟨_, .v _, fun w' _ => ?_⟩
  have hr := h.eval y
  rw [hy] at hr
  generalize hg : a.eval y = u at hr
  refine run_append (P := P) ho (h.flat hs) hg ?_
  have hn' : n + 0 ≤ cap := hn
  cases hr with
  | void _ ad' cap' => cases ad' <;> cases ad <;> simp [Builtin.append_, hu, hsz, Builtin.lenOf, Builtin.firstCells, storeCells, loadCells, loadCellsFrom, hn, Nat.not_lt.2 hn]
  | list _ _ _ b' o' cap' f hl' q1 q2 hb' hL hc hrr => cases ad <;> simp [Builtin.append_, hu, hsz, Builtin.lenOf, Builtin.firstCells, storeCells, loadCells, loadCellsFrom, hn, Nat.not_lt.2 hn]

end Go.Proofs.Ythnobhekodiciaa.V

namespace Go.Proofs.Ythnobhekodiciaa.V
open Go.RowKit
set_option linter.unusedVariables false
set_option linter.unusedSimpArgs false

/-- What is to hold behind a piece of code, said of states. -/
def LQ (C : Ctx) (Q : Exit → St → Prop) : Exit → Act → World → Prop := fun e a w => (∃ y, Sim C y a w ∧ Q e y) ∨ (e = .ret ∧ C.esc a w)

/-- From state x the code comes to what Q says. -/
def CD (P : Program) (C : Ctx) (c : Code) (x : St) (Q : Exit → St → Prop) : Prop := ∀ a w, Sim C x a w → c.wp P (LQ C Q) a w

/-- From state x the operations come to what Q says. -/
def OD (P : Program) (C : Ctx) (ops : Array Oper) (l : List Oper) (x : St) (Q : Exit → St → Prop) : Prop := ∀ a w, Sim C x a w → wpList P ops (LQ C Q) l a w

variable {P : Program} {C : Ctx} {Q : Exit → St → Prop} {x y : St} {ops : Array Oper} {l : List Oper} {o : Oper}

/-- Is the operation wanted? -/
def Wants (ops : Array Oper) (x : St) (o : Oper) (b : Bool) : Prop := ∀ C a w, Sim C x a w → Region.wanted o (yielded ops a.tmps) = b

theorem wants_plain (h : o.guard = none) : Wants ops x o true := fun C a w _ => by simp [Region.wanted, h]

theorem wants_if {g t : Nat} {want b : Bool} (h : o.guard = some (g, want)) (hg : (ops[g]?).bind (·.dst) = some t) (ht : t < x.n) (hb : look t x.env = .v (.bool b)) : Wants ops x o (b == want) := fun C a w hs => by
 have hv := hs.env t ht
 rw [hb] at hv
 have hv := hv.v_eq
 have hsz := hs.size
 have : a.tmps[t]? = some (.bool b) := by
  rw [Array.getD_eq_getD_getElem?, Array.getElem?_eq_getElem (by omega)] at hv
  rw [Array.getElem?_eq_getElem (by omega)]
  simpa using hv
 simp only [Region.wanted, h, yielded, hg, Option.bind_some, this]
 cases b <;> cases want <;> rfl

/-! ### What a slot holds -/
theorem look_hit {t : Nat} {d : D} {r : List (Nat × D)} : look t ((t, d) :: r) = d := by rw [look_cons, if_pos rfl]
theorem look_nil {t : Nat} : look t [] = .junk := rfl
theorem look_at {t : Nat} {d d' : D} {r : List (Nat × D)} (h : d = d') : look t ((t, d) :: r) = d' := by rw [look_cons, if_pos rfl, h]
theorem look_miss {t i : Nat} {d d' : D} {r : List (Nat × D)} (h : Nat.beq i t = false) (k : look t r = d') : look t ((i, d) :: r) = d' := by rw [look, h]; exact k
theorem opd_const {v : Value} {x : St} : opd x (.const v) = .v v := rfl
theorem opd_func {f : FuncId} {x : St} : opd x (.func f) = .clo (.func f) [] := rfl
theorem opd_glob {g : Nat} {x : St} : opd x (.global g) = .v (.pointer (some ⟨g, 0, none⟩)) := rfl
theorem opd_tmp {t : Nat} {d : D} {x : St} (h : Nat.blt t x.n = true) (k : look t x.env = d) : opd x (.tmp t) = d := by simp only [opd, h, k]; rfl
/-- The same, looked up at once. -/
theorem lk {t : Nat} {l : List (Nat × D)} {d : D} (h : look t l = d := by (repeat (first | exact look_hit | (apply look_miss; focus rfl) | exact look_nil)); done) : look t l = d := h
theorem ot {t : Nat} {d : D} {x : St} (h : Nat.blt t x.n = true := by exact rfl) (k : look t x.env = d := by (repeat (first | exact look_hit | (apply look_miss; focus rfl) | exact look_nil)); done) : opd x (.tmp t) = d := opd_tmp h k

/-- Slot by slot. -/
def Slots (l : List (Nat × D)) : List (Nat × D) → Prop
  | [] => True
  | (i, d) :: r => look i l = d ∧ Slots l r

theorem Slots.look {l : List (Nat × D)} : ∀ {l' : List (Nat × D)}, Slots l l' → ∀ t, V.look t l' = V.look t l ∨ V.look t l' = .junk
 | [], _, t => .inr rfl
 | (i, d) :: r, h, t => by
  rw [look_cons]
  by_cases e : i = t
  ·subst e; rw [if_pos rfl]; exact .inl h.1.symm
  ·rw [if_neg e]; exact h.2.look t

theorem Wk.slots {n : Nat} {l l' : List (Nat × D)} {S : List Blk} (h : Slots l l') : Wk ⟨n, l, S⟩ ⟨n, l', S⟩ := fun C a w hs =>
 ⟨hs.defers, hs.size, fun t ht => by
  rcases h.look t with e | e
  ·simp only [e]; exact hs.env t ht
  ·simp only [e]; exact .junk _, hs.own, hs.fr, hs.ex, hs.tab⟩

/-- The state as it is to be written from here on. -/
theorem Wk.as_ {x : St} {n : Nat} {l' : List (Nat × D)} {S' : List Blk} (hn : x.n = n) (hS : x.S = S') (h : Slots x.env l') : Wk x ⟨n, l', S'⟩ := by
  obtain ⟨n0, l0, S0⟩ := x
  simp only at hn hS h
  subst hn hS
  exact Wk.slots h

theorem Wk.asS {x : St} {n : Nat} {l' : List (Nat × D)} {S' : List Blk} (hn : x.n = n) (hS : S'.Sublist x.S) (h : Slots x.env l') : Wk x ⟨n, l', S'⟩ := by
 obtain ⟨n0, l0, S0⟩ := x
 simp only at hn hS h
 subst hn
 exact (Wk.drop n0 l0 S0 S' hS).trans (Wk.slots h)

theorem wants_T {ops : Array Oper} {x : St} {o : Oper} {g t : Nat} {want b : Bool} (h : o.guard = some (g, want)) (hg : (ops[g]?).bind (·.dst) = some t) (ht : Nat.blt t x.n = true) (hb : look t x.env = .v (.bool b)) (hw : b = want) : Wants ops x o true := by
 have := wants_if h hg (Nat.le_of_ble_eq_true ht) hb
 rw [hw] at this
 simpa using this
theorem wants_F {ops : Array Oper} {x : St} {o : Oper} {g t : Nat} {want b : Bool} (h : o.guard = some (g, want)) (hg : (ops[g]?).bind (·.dst) = some t) (ht : Nat.blt t x.n = true) (hb : look t x.env = .v (.bool b)) (hw : b = !want) : Wants ops x o false := by
 have := wants_if h hg (Nat.le_of_ble_eq_true ht) hb
 rw [hw] at this
 cases want <;> simpa using this
/-- An operation that was not wanted left nothing: whoever waits for it is not wanted either. -/
theorem wants_J {ops : Array Oper} {x : St} {o : Oper} {g t : Nat} {want b : Bool} (h : o.guard = some (g, want)) (hg : (ops[g]?).bind (·.dst) = some t) (ht : Nat.blt t x.n = true) (hb : look t x.env = .v (.tuple #[])) : Wants ops x o false := fun C a w hs => by
  have hv := hs.env t (Nat.le_of_ble_eq_true ht)
  rw [hb] at hv
  have hv := hv.v_eq
  have hsz := hs.size
  have ht' : t < x.n := Nat.le_of_ble_eq_true ht
  have : a.tmps[t]? = some (.tuple #[]) := by
    rw [Array.getD_eq_getD_getElem?, Array.getElem?_eq_getElem (by omega)] at hv
    rw [Array.getElem?_eq_getElem (by omega)]
    simpa using hv
  simp only [Region.wanted, h, yielded, hg, Option.bind_some, this]
  cases want <;> rfl

theorem OD.nil (h : Q .normal x) : OD P C ops [] x Q := fun a w hs => .inl ⟨x, hs, h⟩

theorem OD.eff {W : List Nat} {post : St → Prop} (hw : Wants ops x o true) (h : Eff P C.G x o W post) (k : ∀ y, post y → OD P C ops l y Q) : OD P C ops (o :: l) x Q := fun a w hs => by
 unfold wpList
 rw [if_pos (hw C a w hs)]
 exact .inl (h C a w _ _ rfl hs fun y a' w' hp hs' _ _ => k y hp a' w' hs')

theorem OD.still {kd : Rd} {d : D} {t : Nat} (hw : Wants ops x o true) (hd : o.dst = some t) (h : Still P C.G x o kd d) (k : OD P C ops l (x.put t d) Q) : OD P C ops (o :: l) x Q :=
 OD.eff hw (h.eff hd) fun y hy => by subst hy; exact k

theorem OD.skip {t : Nat} (hw : Wants ops x o false) (hd : o.dst = some t) (k : OD P C ops l (x.put t (.v (.tuple #[]))) Q) : OD P C ops (o :: l) x Q := fun a w hs => by
 unfold wpList
 rw [if_neg (by rw [hw C a w hs]; simp), hd]
 exact k _ _ (hs.put (.v _))

theorem OD.wk (h : Wk x y) (k : OD P C ops l y Q) : OD P C ops l x Q := fun a w hs => k a w (h C a w hs)

/-! ### Code -/

theorem CD.wk {c : Code} (h : Wk x y) (k : CD P C c y Q) : CD P C c x Q := fun a w hs => k a w (h C a w hs)

theorem CD.mono {c : Code} {Q' : Exit → St → Prop} (h : CD P C c x Q) (k : ∀ e y, Q e y → Q' e y) : CD P C c x Q' := fun a w hs =>
 wp_mono (h a w hs) fun e a' w' h => h.imp (fun ⟨y, h1, h2⟩ => ⟨y, h1, k e y h2⟩) id

theorem CD.skip (h : Q .normal x) : CD P C .skip x Q := fun a w hs => wp_skip (.inl ⟨x, hs, h⟩)
theorem CD.ret (h : Q .ret x) : CD P C .ret x Q := fun a w hs => wp_ret (.inl ⟨x, hs, h⟩)
theorem CD.exit {id : Nat} (h : Q (.exit id) x) : CD P C (.exit id) x Q := fun a w hs => wp_exit (.inl ⟨x, hs, h⟩)
/-- What the first piece must come to, where a second one follows. -/
def Then (P : Program) (C : Ctx) (c : Code) (Q : Exit → St → Prop) : Exit → St → Prop
  | .normal, y => CD P C c y Q
  | e, y => Q e y

theorem CD.seq {c d : Code} (h : CD P C c x (Then P C d Q)) : CD P C (.seq c d) x Q := fun a w hs =>
 wp_seq (wp_mono (h a w hs) fun e a' w' h => by
  rcases h with ⟨y, h1, h2⟩ | ⟨rfl, h⟩
  ·cases e <;> first | exact h2 a' w' h1 | exact .inl ⟨y, h1, h2⟩
  ·exact .inr ⟨rfl, h⟩)

theorem CD.region {id : Nat} {l : List Oper} (h : OD P C l.toArray l x Q) : CD P C (.region id l.toArray false) x Q := fun a w hs => wp_region_lit (h a w hs)

theorem CD.cond {c : Operand} {d e : Code} {b : Bool} (hc : opd x c = .v (.bool b)) (ht : b = true → CD P C d x Q) (hf : b = false → CD P C e x Q) : CD P C (.cond c d e) x Q := fun a w hs =>
 wp_cond_split (hs.flat hc) (fun h => ht h a w hs) (fun h => hf h a w hs)

theorem CD.condT {c : Operand} {d e : Code} {b : Bool} (hc : opd x c = .v (.bool b)) (hb : b = true) (ht : CD P C d x Q) : CD P C (.cond c d e) x Q := fun a w hs =>
 wp_cond_true (by rw [hs.flat hc, hb]) (ht a w hs)

theorem CD.condF {c : Operand} {d e : Code} {b : Bool} (hc : opd x c = .v (.bool b)) (hb : b = false) (hf : CD P C e x Q) : CD P C (.cond c d e) x Q := fun a w hs =>
 wp_cond_false (by rw [hs.flat hc, hb]) (hf a w hs)

/-- What the first piece must come to, where one state stands for all behind it. -/
def Cut (Inv : St → Prop) (Q : Exit → St → Prop) : Exit → St → Prop
  | .normal, y => ∃ z, Wk y z ∧ Inv z
  | e, y => Q e y

theorem CD.cut {c d : Code} (Inv : St → Prop) (h1 : CD P C c x (Cut Inv Q)) (h2 : ∀ z, Inv z → CD P C d z Q) : CD P C (.seq c d) x Q :=
 CD.seq (CD.mono h1 fun e y h => by cases e <;> first | (obtain ⟨z, hw, hz⟩ := h; exact CD.wk hw (h2 z hz)) | exact h)

def InBlock (id : Nat) (Q : Exit → St → Prop) : Exit → St → Prop
 | .exit id', y => bif Nat.beq id' id then Q .normal y else Q (.exit id') y
 | e, y => Q e y

theorem CD.block {id : Nat} {c : Code} (h : CD P C c x (InBlock id Q)) : CD P C (.block id c) x Q := fun a w hs =>
 wp_block (wp_mono (h a w hs) fun e a' w' h => by
  rcases h with ⟨y, h1, h2⟩ | ⟨rfl, h⟩
  case inr => exact .inr ⟨rfl, h⟩
  cases e with
  | exit id' =>
   simp only [InBlock] at h2
   simp only [Exit.inBlock]
   by_cases he : id' = id
   ·subst he; rw [if_pos rfl]; simp at h2; exact .inl ⟨y, h1, h2⟩
   ·rw [if_neg he]
    have : Nat.beq id' id = false := by
     cases h : Nat.beq id' id with
     | false => rfl
     | true => exact absurd (Nat.eq_of_beq_eq_true h) he
    rw [this] at h2; exact .inl ⟨y, h1, h2⟩
  | _ => exact .inl ⟨y, h1, h2⟩)

theorem least (p : Nat → Prop) (h : ∃ n, p n) : ∃ n, p n ∧ ∀ m, p m → n ≤ m := by
 obtain ⟨n, hn⟩ := h
 induction n using Nat.strongRecOn with
 | _ n ih =>
  by_cases hq : ∃ m, m < n ∧ p m
  ·obtain ⟨m, hm, hp⟩ := hq; exact ih m hm hp
  ·exact ⟨n, hn, fun m hm => Nat.le_of_not_lt fun hlt => hq ⟨m, hlt, hm⟩⟩

/-- What a round must come to: another state of the loop, nearer to its end; or what lies behind the loop. -/
def Round {ι : Type} (I : ι → St → Prop) (μ : ι → Nat) (i : ι) (Q : Exit → St → Prop) : Exit → St → Prop
  | .normal, y => ∃ j z, μ j < μ i ∧ Wk y z ∧ I j z
  | e, y => Q e y

open Classical in
theorem CD.loop {ι : Type} {c : Code} (I : ι → St → Prop) (μ : ι → Nat) (i : ι) (h0 : I i x) (round : ∀ i y, I i y → CD P C c y (Round I μ i Q)) : CD P C (.loop c) x Q := fun a w hs => by
 let p : Act → World → Nat → Prop := fun a w n => ∃ i y, μ i = n ∧ I i y ∧ Sim C y a w
 let m : Act → World → Nat := fun a w => if h : ∃ n, p a w n then Classical.choose (least _ h) else 0
 refine wp_loop (fun a w => ∃ n, p a w n) m ⟨_, i, x, rfl, h0, hs⟩ fun a w hI => ?_
 have hm : m a w = Classical.choose (least _ hI) := dif_pos hI
 obtain ⟨⟨i, y, h1, h2, h3⟩, _⟩ := Classical.choose_spec (least _ hI)
 rw [← hm] at h1
 refine wp_mono (round i y h2 a w h3) fun e a' w' h => ?_
 rcases h with ⟨z, q1, q2⟩ | ⟨rfl, h⟩
 case inr => exact .inr ⟨rfl, h⟩
 cases e with
 | normal =>
  obtain ⟨j, z', r1, r2, r3⟩ := q2
  have hp : p a' w' (μ j) := ⟨j, z', rfl, r3, r2 C a' w' q1⟩
  have hI' : ∃ n, p a' w' n := ⟨_, hp⟩
  have hm' : m a' w' = Classical.choose (least _ hI') := dif_pos hI'
  refine ⟨hI', ?_⟩
  have := (Classical.choose_spec (least _ hI')).2 _ hp
  rw [hm']
  omega
 | _ => exact .inl ⟨z, q1, q2⟩

/-! ### Results and bodies -/

def rsem (tmps : Array Value) : ResultVar → Sem Value
 | .tmp t => pure (tmps.getD t undef)
 | .cell a t => do loadVar t (← asAddr (tmps.getD a undef))

theorem results_eq (fn : Func) (tmps : Array Value) : results fn tmps = (do let vs ← fn.results.mapM (rsem tmps); pure (if h : vs.size = 1 then vs[0] else .tuple vs)) := rfl

/-- The result variable reads as d. -/
def Res (P : Program) (y : St) (rv : ResultVar) (d : D) : Prop :=
  ∀ C a w, Sim C y a w → ∃ v, Rep w (live C.X y.S) d v ∧ (rsem a.tmps rv).run P w = .ok v w

theorem res_tmp {t : Nat} {d : D} (ht : t < y.n) (hd : look t y.env = d) : Res P y (.tmp t) d := fun C a w h => ⟨_, hd ▸ h.env t ht, rfl⟩

theorem res_cells {c t k b n : Nat} {B : Blk} {ds : List D} (hc : c < y.n) (hd : look c y.env = .v (.pointer (some ⟨b, 0, none⟩))) (hk : y.S[k]? = some B) (hb : B.b = b) (ha : ∀ w, (isAgg t).run P w = .ok true w) (hn : ∀ w, (sizeOf t).run P w = .ok n w) (hcs : B.cs = ds) (hl : ds.length = n) (hne : isMap B.e = false := by rfl) : Res P y (.cell c t) (.agg ds) := fun C a w h => by
 subst hb hcs
 have he := h.env c hc
 rw [hd] at he
 obtain ⟨_, cur, h1, h2, h3, h4⟩ := h.blk hk
 rw [ob_cells hne] at h1
 refine ⟨.agg ((List.range n).map fun j => cur.getD j undef).toArray, .agg _ _ (by simp [hl]) (fun i q1 q2 => ?_), ?_⟩
 ·obtain ⟨u, hu, hr⟩ := h4 i q1
  simp only [List.getElem_map, List.getElem_range, Array.getD_eq_getD_getElem?, hu, Option.getD_some]
  exact hr
 ·simp only [rsem, he.v_eq, asAddr, Sem.run_bind, Sem.run_pure, Result.andThen_ok]
  have := run_loadN (P := P) (t := t) (w := w) (b := B.b) (o' := 0) (vs := (List.range n).map fun j => cur.getD j undef) ha hn (by simp) (fun j hj => by
   simp only [List.length_map, List.length_range] at hj
   obtain ⟨u, hu, _⟩ := h4 j (by omega)
   simp only [List.getElem_map, List.getElem_range, Array.getD_eq_getD_getElem?, hu, Option.getD_some, Nat.zero_add]
   exact cell_blk h1 hu)
  simpa [Instr.loadAt, Instr.sureAddr] using this

def Ret (P : Program) (fn : Func) (y : St) (r : D) : Prop := ∀ C a w, Sim C y a w → ∃ v, Rep w (live C.X y.S) r v ∧ (results fn a.tmps).run P w = .ok v w

theorem ret_one {fn : Func} {rv : ResultVar} {d : D} (hr : fn.results = #[rv]) (h : Res P y rv d) : Ret P fn y d := fun C a w hs => by
 obtain ⟨v, h1, h2⟩ := h C a w hs
 refine ⟨v, h1, ?_⟩
 rw [results_eq, hr]
 simp [h2]

theorem rep_tup {w : World} {L : Nat → Prop} {ds : List D} {vs : List Value} (h : RepL w L ds vs) : Rep w L (.tup ds) (.tuple vs.toArray) := .tup ds vs h.1 h.2

theorem RepL.cons {w : World} {L : Nat → Prop} {d : D} {v : Value} {ds : List D} {vs : List Value} (h : Rep w L d v) (hs : RepL w L ds vs) : RepL w L (d :: ds) (v :: vs) :=
 ⟨by simp [hs.1], fun i h1 h2 => by
  cases i with
  | zero => exact h
  | succ i => exact hs.2 i _ _⟩

theorem RepL.nil (w : World) (L : Nat → Prop) : RepL w L [] [] := ⟨rfl, fun i h => by simp at h⟩

theorem ret_two {fn : Func} {r1 r2 : ResultVar} {d1 d2 : D} (hr : fn.results = #[r1, r2]) (h1 : Res P y r1 d1) (h2 : Res P y r2 d2) : Ret P fn y (.tup [d1, d2]) := fun C a w hs => by
 obtain ⟨v1, a1, b1⟩ := h1 C a w hs
 obtain ⟨v2, a2, b2⟩ := h2 C a w hs
 refine ⟨_, rep_tup (.cons a1 (.cons a2 (.nil _ _))), ?_⟩
 rw [results_eq, hr]
 simp [b1, b2]

theorem ret_three {fn : Func} {r1 r2 r3 : ResultVar} {d1 d2 d3 : D} (hr : fn.results = #[r1, r2, r3]) (h1 : Res P y r1 d1) (h2 : Res P y r2 d2) (h3 : Res P y r3 d3) : Ret P fn y (.tup [d1, d2, d3]) := fun C a w hs => by
 obtain ⟨v1, a1, b1⟩ := h1 C a w hs
 obtain ⟨v2, a2, b2⟩ := h2 C a w hs
 obtain ⟨v3, a3, b3⟩ := h3 C a w hs
 refine ⟨_, rep_tup (.cons a1 (.cons a2 (.cons a3 (.nil _ _)))), ?_⟩
 rw [results_eq, hr]
 simp [b1, b2, b3]

/-- The body's end. -/
def Body (P : Program) (fn : Func) (post : D → List Blk → Prop) (e : Exit) (y : St) : Prop :=
  (e = .normal ∨ e = .ret) ∧ ∃ r S', S'.Sublist y.S ∧ Ret P fn y r ∧ post r S'

def envOf : Nat → List D → List (Nat × D)
 | _, [] => []
 | i, d :: r => (i, d) :: envOf (i + 1) r

theorem look_envOf : ∀ (ds : List D) (i t : Nat), look t (envOf i ds) = if i ≤ t then ds.getD (t - i) .junk else .junk
 | [], i, t => by simp [envOf, look]
 | d :: r, i, t => by
  rw [envOf, look_cons, look_envOf r (i + 1) t]
  by_cases h : i = t
  ·subst h; simp
  ·rw [if_neg h]
   by_cases h2 : i ≤ t
   ·rw [if_pos h2, if_pos (by omega), show t - i = (t - (i + 1)) + 1 from by omega]; simp
   ·rw [if_neg h2, if_neg (by omega)]

theorem VC.body {G : List (Nat × List Value)} {f : FuncId} {fn : Func} {c : Code} {n : Nat} {args : List D} {S : List Blk} {post : D → List Blk → Prop} (hf : P.funcs[f]? = some fn) (hb : fn.body = some c) (hn : fn.ntmps = n) (hl : args.length ≤ n)
  (h : ∀ X w0 S0, CD P ⟨X, w0, S0, G, [], fun _ _ => False⟩ c ⟨n, envOf 0 args, S⟩ (Body P fn post)) : VC P G f args S post := fun X w vs hp => by
 have hvl : vs.length = args.length := hp.args.1
 let C : Ctx := ⟨X, w, bks S, G, [], fun _ _ => False⟩
 have hsim : Sim C ⟨n, envOf 0 args, S⟩ { tmps := vs.toArray ++ Array.replicate (fn.ntmps - vs.toArray.size) undef, defers := [] } w := by
  refine ⟨rfl, by simp [hn]; omega, fun t ht => ?_, hp.own, Fr.refl _ _, hp.ex, hp.tab⟩
  simp only [look_envOf, Nat.zero_le, if_true, Nat.sub_zero]
  by_cases hlt : t < args.length
  ·have e1 : args.getD t .junk = args[t] := by simp [List.getD, hlt]
   have e2 : (vs.toArray ++ Array.replicate (fn.ntmps - vs.toArray.size) undef).getD t undef = vs[t]'(by omega) := by
    rw [Array.getD_eq_getD_getElem?, Array.getElem?_append_left (by simp; omega)]
    simp [show t < vs.length by omega]
   rw [e1, e2]
   exact hp.args.2 t hlt (by omega)
  ·have e1 : args.getD t .junk = .junk := by simp [List.getD, List.getElem?_eq_none (show args.length ≤ t by omega)]
   rw [e1]; exact .junk _
 refine calls_of_wp hf hb (wp_mono (h _ _ _ _ _ hsim) fun e a w' h => ?_)
 rcases h with ⟨y, h1, h2, r, S', h3, h4, h5⟩ | ⟨_, h⟩
 case inr => exact h.elim
 obtain ⟨v, q1, q2⟩ := h4 C a w' h1
 have hsub : (bks S').Sublist (bks y.S) := List.Sublist.map _ h3
 have key : a.defers = [] ∧ ∃ v, (results fn a.tmps).run P w' = .ok v w' ∧ ∃ v' r S', Ending.returned v = .returned v' ∧ post r S' ∧ Own w' (live X S') S' ∧ Rep w' (live X S') r v' ∧ Fr w (bks S) w' (bks S') :=
  ⟨h1.defers, v, q2, v, r, S', rfl, h5, h1.own.sub h3, q1.mono fun b _ hn => ⟨rfl, fun hl => hn (hl.imp id fun q => hsub.subset q)⟩,
   ⟨h1.fr.os, h1.fr.tape, h1.fr.output, h1.fr.size, fun b hb' hn => ⟨(h1.fr.block b hb' hn).1, fun q => (h1.fr.block b hb' hn).2 (hsub.subset q)⟩⟩⟩
 rcases h2 with rfl | rfl <;> exact key

end Go.Proofs.Ythnobhekodiciaa.V

namespace Go.Proofs.Ythnobhekodiciaa.V
open Go.RowKit
set_option linter.unusedVariables false
set_option linter.unusedSimpArgs false

/-- What stands through a region that began in w1: what nobody owned then, and the blocks T. -/
def Stay (w1 : World) (S1 T : List Nat) (w : World) : Prop := (∀ b, b < w1.heap.size → b ∉ S1 → w.heap[b]? = w1.heap[b]?) ∧ ∀ b ∈ T, w.heap[b]? = w1.heap[b]?

/-- Whatever order is drawn from here on (T: owned blocks that nobody writes in the region; S1: what was owned at its beginning). -/
def AD (P : Program) (C : Ctx) (ops : Array Oper) (S1 T : List Nat) (fuel : Nat) (ld : Array Bool) (x : St) (Q : Exit → St → Prop) : Prop :=
  ∀ w1 a w, Sim C x a w → (∀ b ∈ T, b ∈ S1) → (∀ b ∈ S1, b < w1.heap.size) → Fr w1 S1 w (bks x.S) → Stay w1 S1 T w → wpAnyH P .any ops (LQ C Q) (Stay w1 S1 T) fuel ld a w

/-- The same at the region's beginning, where nothing has been changed yet. -/
def AD0 (P : Program) (C : Ctx) (ops : Array Oper) (S1 T : List Nat) (fuel : Nat) (ld : Array Bool) (x : St) (Q : Exit → St → Prop) : Prop :=
  ∀ a w, Sim C x a w → bks x.S = S1 → (∀ b ∈ T, b ∈ S1) → wpAnyH P .any ops (LQ C Q) (Stay w S1 T) fuel ld a w

def NP (Q : Exit → St → Prop) : Prop := ∀ c y t, Q (.panic c) y → Q (.panic c) (y.put t .junk)

variable {P : Program} {C : Ctx} {Q : Exit → St → Prop} {x y : St} {ops : Array Oper} {l : List Oper} {o : Oper} {S1 T : List Nat}

theorem NP.then {c : Code} (h : NP Q) : NP (Then P C c Q) := fun ch y t hq => h ch y t hq
theorem NP.cut {Inv : St → Prop} (h : NP Q) : NP (Cut Inv Q) := fun ch y t hq => h ch y t hq
theorem NP.inBlock {id : Nat} (h : NP Q) : NP (InBlock id Q) := fun ch y t hq => h ch y t hq
theorem NP.round {ι : Type} {I : ι → St → Prop} {μ : ι → Nat} {i : ι} (h : NP Q) : NP (Round I μ i Q) := fun ch y t hq => h ch y t hq
theorem NP.body {fn : Func} {post : D → List Blk → Prop} : NP (Body P fn post) := fun ch y t hq => by rcases hq.1 with h | h <;> cases h

theorem Stay.refl (w1 : World) (S1 T : List Nat) : Stay w1 S1 T w1 := ⟨fun _ _ _ => rfl, fun _ _ => rfl⟩

theorem AD0.later {fuel : Nat} {ld : Array Bool} (hS : bks x.S = S1) (h : AD P C ops S1 T fuel ld x Q) : AD0 P C ops S1 T fuel ld x Q := fun a w hs _ hT =>
 h w a w hs hT (fun b hb => by
  rw [← hS] at hb
  obtain ⟨B, hB, rfl⟩ := List.mem_map.1 hb
  exact (hs.own.at_ B hB).1) (hS ▸ Fr.refl _ _) (Stay.refl _ _ _)

/-- Is the operation's looking safe, whatever else of the region comes first? -/
def Safe (x : St) (T : List Nat) : Rd → Prop
  | .none => True
  | .imm => True
  | .blk k => ∃ B, x.S[k]? = some B ∧ B.b ∈ T

theorem hQ_of (h : NP Q) (d : Option Nat) (v : Value) : ∀ c a w, LQ C Q (.panic c) (a.put d v) w → LQ C Q (.panic c) a w := fun c a w hq => by
 rcases hq with ⟨y, h1, h2⟩ | ⟨h2, _⟩
 ·cases d with
  | none => exact .inl ⟨y, h1, h2⟩
  | some t =>
   refine .inl ⟨y.put t .junk, ⟨h1.defers, by have h9 := h1.size; simp only [Act.put, Array.size_setIfInBounds] at h9; exact h9, fun q hq => ?_, h1.own, h1.fr, h1.ex, h1.tab⟩, h c y t h2⟩
   have h3 := h1.env q hq
   simp only [St.put, look_cons]
   by_cases e : t = q
   ·rw [if_pos e]; exact .junk _
   ·rw [if_neg e]
    have : (a.put (some t) v).tmps.getD q undef = a.tmps.getD q undef := by simp [Act.put, Array.getD_eq_getD_getElem?, Array.getElem?_setIfInBounds, e]
    rw [this] at h3; exact h3
 ·cases h2

/-- At the beginning: an operation that may come up is taken first. -/
theorem AD0.take {fuel i t : Nat} {ld : Array Bool} {k : Rd} {d : D} (hi : ops[i]? = some o) (hs : Region.noSelect ops = true) (hf : Region.free .any ops ld i = true) (hr : (Region.ready .any ops ld).contains i = true) (hp : NP Q)
    (hw : Wants ops x o true) (hd : o.dst = some t) (h : Still P C.G x o k d) (hk : Safe x T k) (K : AD0 P C ops S1 T fuel (ld.setIfInBounds i true) (x.put t d) Q) : AD0 P C ops S1 T (fuel + 1) ld x Q := fun a w hsim hS hT => by
  obtain ⟨v, h1, h2⟩ := h C a w rfl hsim
  refine wpAnyH_take hi hs hf hr (hQ_of hp _ v) (.inl ⟨hw C a w hsim, fun w' hw' => h2 w' ?_⟩) (Stay.refl _ _ _) ?_
  · cases k with
    | none => trivial
    | imm => exact fun b hb hn => hw'.1 b hb (fun hm => hn (.inr (hS ▸ hm)))
    | blk k =>
      obtain ⟨B, hB, hm⟩ := hk
      intro B' hB'
      rw [hB] at hB'
      obtain rfl := Option.some.inj hB'
      exact hw'.2 _ hm
  · rw [hd]
    exact K _ _ (hsim.put h1) hS hT

theorem AD0.takeSkip {fuel i t : Nat} {ld : Array Bool} (hi : ops[i]? = some o) (hs : Region.noSelect ops = true) (hf : Region.free .any ops ld i = true) (hr : (Region.ready .any ops ld).contains i = true) (hp : NP Q)
  (hw : Wants ops x o false) (hd : o.dst = some t) (K : AD0 P C ops S1 T fuel (ld.setIfInBounds i true) (x.put t (.v (.tuple #[]))) Q) : AD0 P C ops S1 T (fuel + 1) ld x Q := fun a w hsim hS hT => by
 refine wpAnyH_take (v := undef) hi hs hf hr (hQ_of hp _ _) (.inr ⟨hw C a w hsim, rfl⟩) (Stay.refl _ _ _) ?_
 rw [hd]
 exact K _ _ (hsim.put (.v _)) hS hT

/-- Later: an operation that looks at nothing, or at an owned block that stands. -/
theorem AD.take {fuel i t : Nat} {ld : Array Bool} {k : Rd} {d : D} (hi : ops[i]? = some o) (hs : Region.noSelect ops = true) (hf : Region.free .any ops ld i = true) (hr : (Region.ready .any ops ld).contains i = true) (hp : NP Q)
    (hw : Wants ops x o true) (hd : o.dst = some t) (h : Still P C.G x o k d) (hk : Safe x T k) (hni : k ≠ .imm) (K : AD P C ops S1 T fuel (ld.setIfInBounds i true) (x.put t d) Q) : AD P C ops S1 T (fuel + 1) ld x Q := fun w1 a w hsim hT hlt hfr hst => by
  obtain ⟨v, h1, h2⟩ := h C a w rfl hsim
  refine wpAnyH_take hi hs hf hr (hQ_of hp _ v) (.inl ⟨hw C a w hsim, fun w' hw' => h2 w' ?_⟩) hst ?_
  · cases k with
    | none => trivial
    | imm => exact absurd rfl hni
    | blk k =>
      obtain ⟨B, hB, hm⟩ := hk
      intro B' hB'
      rw [hB] at hB'
      obtain rfl := Option.some.inj hB'
      exact (hw'.2 _ hm).trans (hst.2 _ hm).symm
  · rw [hd]
    exact K _ _ _ (hsim.put h1) hT hlt hfr hst

theorem AD.takeSkip {fuel i t : Nat} {ld : Array Bool} (hi : ops[i]? = some o) (hs : Region.noSelect ops = true) (hf : Region.free .any ops ld i = true) (hr : (Region.ready .any ops ld).contains i = true) (hp : NP Q)
  (hw : Wants ops x o false) (hd : o.dst = some t) (K : AD P C ops S1 T fuel (ld.setIfInBounds i true) (x.put t (.v (.tuple #[]))) Q) : AD P C ops S1 T (fuel + 1) ld x Q := fun w1 a w hsim hT hlt hfr hst => by
 refine wpAnyH_take (v := undef) hi hs hf hr (hQ_of hp _ _) (.inr ⟨hw C a w hsim, rfl⟩) hst ?_
 rw [hd]
 exact K _ _ _ (hsim.put (.v _)) hT hlt hfr hst

/-- The number i comes up, with what is to hold behind it. -/
def AStep (P : Program) (C : Ctx) (ops : Array Oper) (S1 T : List Nat) (fuel : Nat) (ld : Array Bool) (x : St) (Q : Exit → St → Prop) (i : Nat) : Prop :=
  ∀ w1 a w, Sim C x a w → (∀ b ∈ T, b ∈ S1) → (∀ b ∈ S1, b < w1.heap.size) → Fr w1 S1 w (bks x.S) → Stay w1 S1 T w →
    wpOp P ops (LQ C Q) i (fun a' w' => Stay w1 S1 T w' ∧ wpAnyH P .any ops (LQ C Q) (Stay w1 S1 T) fuel (ld.setIfInBounds i true) a' w') a w

theorem AD.all {fuel : Nat} {ld : Array Bool} {rs : List Nat} (hr : Region.ready .any ops ld = rs) (hne : rs ≠ []) (h : ∀ i ∈ rs, AStep P C ops S1 T fuel ld x Q i) : AD P C ops S1 T (fuel + 1) ld x Q := fun w1 a w hsim hT hlt hfr hst =>
 wpAnyH_all hr hne fun i hi => h i hi w1 a w hsim hT hlt hfr hst

theorem AD.one {fuel i : Nat} {ld : Array Bool} (hr : Region.ready .any ops ld = [i]) (h : AStep P C ops S1 T fuel ld x Q i) : AD P C ops S1 T (fuel + 1) ld x Q :=
 AD.all hr (by simp) fun j hj => by
  have : j = i := by simpa using hj
  subst this; exact h

theorem AD.two {fuel i j : Nat} {ld : Array Bool} (hr : Region.ready .any ops ld = [i, j]) (h : AStep P C ops S1 T fuel ld x Q i) (h' : AStep P C ops S1 T fuel ld x Q j) : AD P C ops S1 T (fuel + 1) ld x Q :=
 AD.all hr (by simp) fun k hk => by
  simp only [List.mem_cons, List.not_mem_nil, or_false] at hk
  rcases hk with rfl | rfl
  ·exact h
  ·exact h'

theorem AD.done {fuel : Nat} {ld : Array Bool} (hr : Region.ready .any ops ld = []) (h : Q .normal x) : AD P C ops S1 T fuel ld x Q := fun w1 a w hsim hT hlt hfr hst => wpAnyH_done hr (.inl ⟨x, hsim, h⟩) _
theorem AD0.done {fuel : Nat} {ld : Array Bool} (hr : Region.ready .any ops ld = []) (h : Q .normal x) : AD0 P C ops S1 T fuel ld x Q := fun a w hsim _ _ => wpAnyH_done hr (.inl ⟨x, hsim, h⟩) _

theorem AStep.eff {fuel i : Nat} {ld : Array Bool} {W : List Nat} {post : St → Prop} (hi : ops[i]? = some o) (hw : Wants ops x o true) (h : Eff P C.G x o W post) (hW : ∀ C a w, Sim C x a w → ∀ b ∈ T, b ∉ W) (hWx : ∀ b ∈ W, b ∈ bks x.S)
  (k : ∀ y, post y → AD P C ops S1 T fuel (ld.setIfInBounds i true) y Q) : AStep P C ops S1 T fuel ld x Q i := fun w1 a w hsim hT hlt hfr hst => by
 unfold wpOp
 simp only [hi, hw C a w hsim, if_true]
 refine .inl (h C a w _ _ rfl hsim fun y a' w' hp hs' hc hf => ?_)
 have hfr' : Fr w1 S1 w' (bks y.S) := ⟨hf.os.trans hfr.os, hf.tape.trans hfr.tape, hf.output.trans hfr.output, Nat.le_trans hfr.size hf.size, fun b hb hn => by
  obtain ⟨q1, q2⟩ := hfr.block b hb hn
  obtain ⟨q3, q4⟩ := hf.block b (Nat.lt_of_lt_of_le hb hfr.size) q2
  exact ⟨q3.trans q1, q4⟩⟩
 have hst' : Stay w1 S1 T w' := ⟨fun b hb hn => (hfr'.block b hb hn).1, fun b hb => by
  have hb1 := Nat.lt_of_lt_of_le (hlt b (hT b hb)) hfr.size
  exact (hc.2 b hb1 (hW C a w hsim b hb)).trans (hst.2 b hb)⟩
 exact ⟨hst', k y hp w1 a' w' hs' hT hlt hfr' hst'⟩

theorem AStep.still {fuel i t : Nat} {ld : Array Bool} {kd : Rd} {d : D} (hi : ops[i]? = some o) (hw : Wants ops x o true) (hd : o.dst = some t) (h : Still P C.G x o kd d) (k : AD P C ops S1 T fuel (ld.setIfInBounds i true) (x.put t d) Q) : AStep P C ops S1 T fuel ld x Q i :=
 AStep.eff hi hw (h.eff hd) (fun _ _ _ _ b _ hb => by simp at hb) (fun b hb => by simp at hb) fun y hy => by subst hy; exact k

theorem AStep.skip {fuel i t : Nat} {ld : Array Bool} (hi : ops[i]? = some o) (hw : Wants ops x o false) (hd : o.dst = some t) (k : AD P C ops S1 T fuel (ld.setIfInBounds i true) (x.put t (.v (.tuple #[]))) Q) : AStep P C ops S1 T fuel ld x Q i := fun w1 a w hsim hT hlt hfr hst => by
 unfold wpOp
 simp only [hi, hw C a w hsim, hd]
 exact ⟨hst, k w1 _ w (hsim.put (.v _)) hT hlt hfr hst⟩

theorem AD.wk {fuel : Nat} {ld : Array Bool} (h : Wk x y) (hb : bks y.S = bks x.S) (k : AD P C ops S1 T fuel ld y Q) : AD P C ops S1 T fuel ld x Q := fun w1 a w hsim hT hlt hfr hst => k w1 a w (h C a w hsim) hT hlt (hb ▸ hfr) hst

theorem AD.wkSub {fuel : Nat} {ld : Array Bool} (h : Wk x y) (hb : ∀ b ∈ bks y.S, b ∈ bks x.S) (k : AD P C ops S1 T fuel ld y Q) : AD P C ops S1 T fuel ld x Q := fun w1 a w hsim hT hlt hfr hst =>
 k w1 a w (h C a w hsim) hT hlt ⟨hfr.os, hfr.tape, hfr.output, hfr.size, fun b h1 h2 => ⟨(hfr.block b h1 h2).1, fun h3 => (hfr.block b h1 h2).2 (hb b h3)⟩⟩ hst

/-- The region. T: the owned blocks that its loads may look at first, and nobody writes in it. -/
theorem CD.draw {id : Nat} {l : List Oper} (T : List Nat) (hm : P.follows .mixedOrders = true) (hT : ∀ b ∈ T, b ∈ bks x.S) (h : AD0 P C l.toArray (bks x.S) T l.toArray.size (Array.replicate l.toArray.size false) x Q) : CD P C (.region id l.toArray true) x Q := fun a w hs =>
  wp_region_held (S := Stay { w with drawn := w.drawn + 1 } (bks x.S) T) hm (h a _ ⟨hs.defers, hs.size, fun t ht => (hs.env t ht).mono fun b _ hn => ⟨rfl, hn⟩, ⟨fun B hB => by
    obtain ⟨r0, cur, r1, r2, r3, r4⟩ := hs.own.at_ B hB
    exact ⟨r0, cur, r1, r2, r3, fun i hi => by
      obtain ⟨u, hu, hq⟩ := r4 i hi
      exact ⟨u, hu, hq.mono fun b _ hn => ⟨rfl, hn⟩⟩⟩, hs.own.apart⟩, ⟨hs.fr.os, hs.fr.tape, hs.fr.output, hs.fr.size, hs.fr.block⟩, hs.ex, hs.tab⟩ rfl hT)

end Go.Proofs.Ythnobhekodiciaa.V

namespace Go.Proofs.Ythnobhekodiciaa.V
open Go.RowKit
set_option linter.unusedVariables false
set_option linter.unusedSimpArgs false

variable {P : Program}

theorem bin_int {op : BinOp} {t : TypeId} {k : IntKind} {a b r : Int} (h : (op = .add ∧ k.wrap (a + b) = r) ∨ (op = .sub ∧ k.wrap (a - b) = r) ∨ (op = .mul ∧ k.wrap (a * b) = r)) : BinOK P op t (.int k a) (.int k b) (.int k r) := fun y z w => by
 rcases h with ⟨rfl, h⟩ | ⟨rfl, h⟩ | ⟨rfl, h⟩ <;> simp [eqGuard, binOp, Op.intArith, h]

theorem bin_add {t : TypeId} {k : IntKind} {a b r : Int} (h : k.wrap (a + b) = r) : BinOK P .add t (.int k a) (.int k b) (.int k r) := bin_int (.inl ⟨rfl, h⟩)
theorem bin_sub {t : TypeId} {k : IntKind} {a b r : Int} (h : k.wrap (a - b) = r) : BinOK P .sub t (.int k a) (.int k b) (.int k r) := bin_int (.inr (.inl ⟨rfl, h⟩))
theorem bin_mul {t : TypeId} {k : IntKind} {a b r : Int} (h : k.wrap (a * b) = r) : BinOK P .mul t (.int k a) (.int k b) (.int k r) := bin_int (.inr (.inr ⟨rfl, h⟩))
theorem bin_lss {t : TypeId} {k : IntKind} {a b : Int} : BinOK P .lss t (.int k a) (.int k b) (.bool (decide (a < b))) := fun y z w => by simp [eqGuard, binOp, Op.intCmp]
theorem bin_leq {t : TypeId} {k : IntKind} {a b : Int} : BinOK P .leq t (.int k a) (.int k b) (.bool (decide (a ≤ b))) := fun y z w => by simp [eqGuard, binOp, Op.intCmp]
theorem bin_gtr {t : TypeId} {k : IntKind} {a b : Int} : BinOK P .gtr t (.int k a) (.int k b) (.bool (decide (a > b))) := fun y z w => by simp [eqGuard, binOp, Op.intCmp]
theorem bin_geq {t : TypeId} {k : IntKind} {a b : Int} : BinOK P .geq t (.int k a) (.int k b) (.bool (decide (a ≥ b))) := fun y z w => by simp [eqGuard, binOp, Op.intCmp]
theorem bin_eql {t : TypeId} {k : IntKind} {a b : Int} : BinOK P .eql t (.int k a) (.int k b) (.bool (a == b)) := fun y z w => by simp [eqGuard, binOp, Op.intCmp]
theorem bin_neq {t : TypeId} {k : IntKind} {a b : Int} : BinOK P .neq t (.int k a) (.int k b) (.bool (a != b)) := fun y z w => by simp [eqGuard, binOp, Op.intCmp]
theorem bin_quo {t : TypeId} {k : IntKind} {a b r : Int} (hb : b ≠ 0) (h : k.wrap (a.tdiv b) = r) : BinOK P .quo t (.int k a) (.int k b) (.int k r) := fun y z w => by simp [eqGuard, binOp, Op.intDiv, hb, h]
theorem bin_rem {t : TypeId} {k : IntKind} {a b : Int} (hb : b ≠ 0) : BinOK P .rem t (.int k a) (.int k b) (.int k (a.tmod b)) := fun y z w => by simp [eqGuard, binOp, Op.intDiv, hb]

theorem bin_seql {t : TypeId} {a b : ByteArray} : BinOK P .eql t (.string a) (.string b) (.bool (a.toList == b.toList)) := fun y z w => by simp [eqGuard, binOp, Op.stringOp]
theorem bin_sneq {t : TypeId} {a b : ByteArray} : BinOK P .neq t (.string a) (.string b) (.bool (!(a.toList == b.toList))) := fun y z w => by simp [eqGuard, binOp, Op.stringOp]
theorem bin_slss {t : TypeId} {a b : ByteArray} : BinOK P .lss t (.string a) (.string b) (.bool (Op.bytesLess a.toList b.toList)) := fun y z w => by simp [eqGuard, binOp, Op.stringOp]
theorem bin_sleq {t : TypeId} {a b : ByteArray} : BinOK P .leq t (.string a) (.string b) (.bool (Op.bytesLess a.toList b.toList || a.toList == b.toList)) := fun y z w => by simp [eqGuard, binOp, Op.stringOp]
theorem bin_sgtr {t : TypeId} {a b : ByteArray} : BinOK P .gtr t (.string a) (.string b) (.bool (!(Op.bytesLess a.toList b.toList || a.toList == b.toList))) := fun y z w => by simp [eqGuard, binOp, Op.stringOp]
theorem bin_sgeq {t : TypeId} {a b : ByteArray} : BinOK P .geq t (.string a) (.string b) (.bool (!Op.bytesLess a.toList b.toList)) := fun y z w => by simp [eqGuard, binOp, Op.stringOp]
theorem bin_cat {t : TypeId} {a b : ByteArray} (h : a.size + b.size ≤ 9223372036854775807) : BinOK P .add t (.string a) (.string b) (.string (a ++ b)) := fun y z w => by
 have : ¬ (((a.size + b.size : Nat) : Int) > IntKind.i64.max) := by
  have : IntKind.i64.max = 9223372036854775807 := rfl
  omega
 simp only [eqGuard, binOp, Op.stringOp, Sem.run_bind]
 simp only [this, if_false]
 simp

theorem bin_bneq {t : TypeId} {a b : Bool} (hu : P.underlying t = some .bool) : BinOK P .neq t (.bool a) (.bool b) (.bool (!(a == b))) := fun y z w => by
 have : binOp .neq t (.bool a) (.bool b) = (do pure (.bool (!(← Op.equal t (.bool a) (.bool b))))) := rfl
 simp only [eqGuard, this, Sem.run_bind]
 simp [run_equal_bool w t a b hu]

section
variable {G : List (Nat × List Value)} {x : St} {o : Oper}

def byteD (b : UInt8) : D := .v (.int .u8 (b.toNat : Int))

/-- string(b). -/
theorem still_ofBytes {s t e : TypeId} {y : Operand} {bs : List UInt8} {n : Nat} (ho : o.op = .convert s t y) (hy : opd x y = .list 1 (bs.map byteD) n) (hs : P.underlying s = some (.slice e)) (he : P.underlying e = some (.int .u8)) (ht : P.underlying t = some .string) :
    Still P G x o .imm (.v (.string ⟨bs.toArray⟩)) := fun C a w _ h => by
  have hr := h.eval y
  rw [hy] at hr
  generalize hg : a.eval y = u at hr
  generalize hcs : bs.map byteD = cs at hr
  cases hr with
  | void _ ad cap =>
    have : bs = [] := by simpa using hcs
    subst this
    refine ⟨_, .v _, fun w' _ => ?_⟩
    unfold execOp
    simp only [ho, hg, Sem.run_bind, run_convert_bytes_string w' s t e ad 0 cap hs he ht]
    cases ad <;> simp [Conv.bytesToString, loadCells, loadCellsFrom] <;> rfl
  | list _ _ _ b o'' cap g hl q1 q2 hb hL hc hrr =>
    subst hcs
    simp only [List.length_map, Nat.mul_one] at hl hc
    refine ⟨_, .v _, fun w' hw => ?_⟩
    unfold execOp
    have hrun := run_convert_bytes_back (P := P) w' s t e ⟨b, o'', none⟩ cap bs hs he ht (fun j hj => by
      rw [Addr.add_mid]
      have hh := World.cell?_of_block (w := w) (a := ⟨b, o'' + j, none⟩) (hw b hb hL)
      rw [hh, hc j hj]
      have := hrr j (by simpa using hj)
      simp only [List.getElem_map, byteD] at this
      rw [this.v_eq])
    rw [hl] at hrun
    simp only [ho, hg, Sem.run_bind, hrun, Result.andThen_ok, Sem.run_pure]
end

theorem un_not {b : Bool} : ∀ w, (Op.unary .not (.bool b)).run P w = .ok (.bool !b) w := fun w => rfl
theorem un_neg {k : IntKind} {a r : Int} (h : k.wrap (0 - a) = r) : ∀ w, (Op.unary .neg (.int k a)).run P w = .ok (.int k r) w := fun w => by
 subst h; rfl

/-- A number of another kind. -/
theorem conv_int {s t : TypeId} {k k' : IntKind} {a r : Int} {d : TypeDesc} (hs : ∀ w, (underlying s).run P w = .ok d w) (ht : ∀ w, (underlying t).run P w = .ok (.int k') w) (h : k'.wrap a = r) : ∀ w, (convert s t (.int k a)).run P w = .ok (.int k' r) w := fun w => by
  subst h
  simp [convert, hs, ht, Conv.intToInt]

theorem wrap_i64 {x : Int} (h1 : -9223372036854775808 ≤ x) (h2 : x ≤ 9223372036854775807) : IntKind.i64.wrap x = x := IntWalk.i64_in _ (by omega)

/-- What a condition says, by simp. -/
theorem cnd : (∀ {p : Prop} [Decidable p], (decide p = true) = p) ∧ (∀ {p : Prop} [Decidable p], (decide p = false) ↔ ¬ p) ∧ (∀ {a b : Int}, (a == b) = true ↔ a = b) ∧ (∀ {a b : Int}, (a != b) = true ↔ a ≠ b) ∧ (∀ {a b : Bool}, (a == b) = true ↔ a = b) ∧ (∀ {a b : Bool}, (a != b) = true ↔ a ≠ b)
    ∧ (∀ {b : Bool}, ((!b) = true) = (b = false)) ∧ (∀ {b : Bool}, ((!b) = false) = (b = true)) ∧ (∀ {b : Bool}, (¬ b = true) = (b = false)) ∧ (∀ {b : Bool}, (¬ b = false) = (b = true)) ∧ (∀ {a b : Int}, (a == b) = false ↔ ¬ a = b) ∧ (∀ {a b : Int}, (a != b) = false ↔ a = b) ∧ (∀ {a b : Bool}, (a == b) = false ↔ ¬ a = b) ∧ (∀ {a b : Bool}, (a != b) = false ↔ a = b)
    ∧ (∀ {a b : Bool}, ((a && b) = true) = (a = true ∧ b = true)) ∧ (∀ {a b : Bool}, ((a || b) = true) = (a = true ∨ b = true)) ∧ (∀ {b : Bool}, (!!b) = b) ∧ (∀ {a b : Bool}, (a && b) = false ↔ a = false ∨ b = false) ∧ (∀ {a b : Bool}, (a || b) = false ↔ a = false ∧ b = false) ∧ (∀ {a b : Int}, (¬ a < b) ↔ b ≤ a) ∧ (∀ {a b : Int}, (¬ a ≤ b) ↔ b < a) := by
  refine ⟨fun {p} _ => by simp, fun {p} _ => by simp, by simp, by simp, by simp, by simp, by simp, by simp, by simp, by simp, by simp, by simp, by simp, by simp, by simp, by simp, by simp, by simp, by simp, by simp, by simp⟩
end Go.Proofs.Ythnobhekodiciaa.V

namespace Go.Proofs.Ythnobhekodiciaa.V
open Go.RowKit
set_option linter.unusedVariables false
set_option linter.unusedSimpArgs false

variable {P : Program} {C : Ctx} {G : List (Nat × List Value)} {Q : Exit → St → Prop} {x y : St} {ops : Array Oper} {l : List Oper} {o : Oper}

theorem still_mv {z : Operand} {d : D} (ho : o.op = .move z) (hd : opd x z = d) : Still P G x o .none d := hd ▸ still_move ho
theorem still_as {z : Operand} {d : D} (ho : o.op = .assign z) (hd : opd x z = d) : Still P G x o .none d := hd ▸ still_assign ho
theorem still_pickT {c y z : Operand} {t : Bool} {d : D} (ho : o.op = .pick c y z) (hc : opd x c = .v (.bool t)) (h : t = true) (hd : opd x y = d) : Still P G x o .none d := by
 have := still_pick (P := P) (G := G) ho hc; rw [if_pos h, hd] at this; exact this
theorem still_pickF {c y z : Operand} {t : Bool} {d : D} (ho : o.op = .pick c y z) (hc : opd x c = .v (.bool t)) (h : t = false) (hd : opd x z = d) : Still P G x o .none d := by
 have := still_pick (P := P) (G := G) ho hc; rw [if_neg (by rw [h]; simp), hd] at this; exact this

/-- Operands, one by one. -/
def Opds (x : St) : List Operand → List D → Prop
  | [], [] => True
  | o :: r, d :: r' => opd x o = d ∧ Opds x r r'
  | _, _ => False

theorem Opds.eq : ∀ {os : List Operand} {ds : List D}, Opds x os ds → os.map (opd x) = ds
 | [], [], _ => rfl
 | o :: r, d :: r', h => by rw [List.map_cons, h.1, Opds.eq h.2]
 | [], _ :: _, h => h.elim
 | _ :: _, [], h => h.elim

def Parts (x : St) : List (Nat × Operand) → List (Nat × D) → Prop
 | [], [] => True
 | p :: r, q :: r' => p.1 = q.1 ∧ opd x p.2 = q.2 ∧ Parts x r r'
 | _, _ => False

theorem Parts.eq : ∀ {ps : List (Nat × Operand)} {ds : List (Nat × D)}, Parts x ps ds → partsD x ps.toArray = ds
 | [], [], _ => rfl
 | p :: r, (i, d) :: r', h => by
  have := Parts.eq h.2.2
  simp only [partsD, List.map_cons] at this ⊢
  rw [this, h.1, h.2.1]
 | [], _ :: _, h => h.elim
 | _ :: _, [], h => h.elim

def solid : D → Bool
 | .junk => false
 | _ => true

theorem parts_solid {ps : List (Nat × D)} (h : ps.all (fun p => solid p.2) = true) : ∀ p ∈ ps, p.2 ≠ .junk := fun p hp he => by
 have := List.all_eq_true.1 h p hp
 rw [he] at this
 cases this

theorem still_bld {t : TypeId} {ps : List (Nat × Operand)} {pl : List (Nat × D)} {fs : Array Field} {places : Array (Nat × Nat)} {z : Value} {ds : List D} (ho : o.op = .build t ps.toArray) (hz : ∀ w, (zeroValue t).run P w = .ok z w)
  (hu : ∀ w, (underlying t).run P w = .ok (.struct fs) w) (hp : ∀ w, (fs.mapM fun f => do pure (f.offset, ← sizeOf f.type) : Sem (Array (Nat × Nat))).run P w = .ok places w)
  (hps : Parts x ps pl) (hj : pl.all (fun p => solid p.2) = true) (hd : fillD (places[·]?) (z.cells.toList.map .v) pl = some ds) : Still P G x o .none (.agg ds) := by
 refine still_build ho hz hu hp ?_ ?_
 ·rw [hps.eq]; exact parts_solid hj
 ·rw [hps.eq]; exact hd

/-- Numbered, from k on. -/
def numD (k : Nat) : List D → List (Nat × D)
  | [] => []
  | d :: r => (k, d) :: numD (k + 1) r
theorem setAll_at : ∀ (ds pre post : List D), ds.length ≤ post.length → setAll (pre ++ post) pre.length ds = (pre ++ ds) ++ post.drop ds.length
 | [], pre, post, _ => by simp [setAll]
 | d :: ds, pre, [], h => by simp at h
 | d :: ds, pre, p :: post, h => by
  rw [setAll, show (pre ++ p :: post).set pre.length d = (pre ++ [d]) ++ post by simp, show pre.length + 1 = (pre ++ [d]).length by simp, setAll_at ds (pre ++ [d]) post (by simpa using h)]
  simp
/-- All the elements of a list, one behind the other. -/
theorem fill_go {sz : Nat} : ∀ (pd : List D) (k : Nat) (pre post : List D), (pd.all fun d => Nat.beq (cellsOf d).length sz) = true → pre.length = k * sz → post.length = pd.length * sz → fillD (fun i => some (i * sz, sz)) (pre ++ post) (numD k pd) = some (pre ++ pd.flatMap cellsOf)
  | [], k, pre, post, _, _, h => by
    have : post = [] := List.length_eq_zero_iff.1 (by simpa using h)
    simp [numD, fillD, this]
  | d :: r, k, pre, post, ha, h1, h2 => by
    rw [List.all_cons, Bool.and_eq_true] at ha
    have hd : (cellsOf d).length = sz := Nat.eq_of_beq_eq_true ha.1
    have hp : post.length = r.length * sz + sz := by rw [h2, List.length_cons, Nat.succ_mul]
    rw [numD, fillD]
    simp only
    rw [if_neg (by simp only [hd, List.length_append, h1, hp, ne_eq, not_true_eq_false, decide_false, Bool.false_or, decide_eq_true_eq]; omega), ← h1, setAll_at _ _ _ (by omega), fill_go r (k + 1) _ _ ha.2 (by rw [List.length_append, hd, h1, Nat.succ_mul]) (by rw [List.length_drop, hd]; omega), List.flatMap_cons]
    simp
theorem fill_full {sz : Nat} {pd zs ds : List D} (ha : (pd.all fun d => Nat.beq (cellsOf d).length sz) = true) (hl : Nat.beq zs.length (pd.length * sz) = true) (hds : pd.flatMap cellsOf = ds) : fillD (fun i => some (i * sz, sz)) zs (numD 0 pd) = some ds := by
 have := fill_go pd 0 [] zs ha (by simp) (Nat.eq_of_beq_eq_true hl)
 rw [List.nil_append, List.nil_append, hds] at this
 exact this

theorem OD.bldS {t e : TypeId} {tt len sz : Nat} {ps : List (Nat × Operand)} {pl : List (Nat × D)} {z : Value} {zvs : List Value} {ds : List D} (hw : Wants ops x o true) (ho : o.op = .buildSlice t len ps.toArray) (hdst : o.dst = some tt) (hz : ∀ w, (zeroValue e).run P w = .ok z w)
  (hu : ∀ w, (underlying t).run P w = .ok (.slice e) w) (hs : ∀ w, (sizeOf e).run P w = .ok sz w) (hl : Nat.ble 1 (len * sz) = true) (hl2 : Nat.ble (len * sz) (2 ^ 24) = true) (hzs : (Array.range (len * sz)).map (fun i => z.cells[i % z.cells.size]!) = zvs.toArray)
  (hps : Parts x ps pl) (hj : pl.all (fun p => solid p.2) = true) (hd : fillD (fun i => some (i * sz, sz)) (zvs.map .v) pl = some ds)
  (k : ∀ b, OD P C ops l ⟨x.n, (tt, .v (.slice (some ⟨b, 0, none⟩) len len)) :: x.env, ⟨b, e, ds.length, ds⟩ :: x.S⟩ Q) (hne : isMap e = false := by rfl) : OD P C ops (o :: l) x Q := by
 refine OD.eff hw (eff_buildSlice (hne := hne) (zs := zvs.map .v) (ds := ds) ho hdst hz hu hs (Nat.le_of_ble_eq_true hl) (Nat.le_of_ble_eq_true hl2) ?_ ?_ ?_ ?_) ?_
 ·rw [hzs]; congr 1; rw [List.map_map]; exact (List.map_id zvs).symm
 ·intro d hd
  obtain ⟨u, _, rfl⟩ := List.mem_map.1 hd
  exact ⟨u, rfl⟩
 ·rw [hps.eq]; exact parts_solid hj
 ·rw [hps.eq]; exact hd
 ·rintro _ ⟨b, rfl⟩; exact k b

theorem OD.alloc {e : TypeId} {z : Value} {t : Nat} {ds : List D} (hw : Wants ops x o true) (ho : o.op = .alloc e) (hd : o.dst = some t) (hz : ∀ w, (zeroValue e).run P w = .ok z w) (hds : z.cells.toList.map .v = ds)
  (k : ∀ b, OD P C ops l ⟨x.n, (t, .v (.pointer (some ⟨b, 0, none⟩))) :: x.env, ⟨b, e, ds.length, ds⟩ :: x.S⟩ Q) (hne : isMap e = false := by rfl) : OD P C ops (o :: l) x Q :=
 OD.eff hw (eff_alloc (hne := hne) ho hd hz hds) fun y ⟨b, hy⟩ => hy ▸ k b

theorem OD.box {e : TypeId} {z : Operand} {t : Nat} {d : D} {ds : List D} (hw : Wants ops x o true) (ho : o.op = .box e z) (hd : o.dst = some t) (hy : opd x z = d) (hj : solid d = true) (hds : cellsOf d = ds)
  (k : ∀ b, OD P C ops l ⟨x.n, (t, .v (.pointer (some ⟨b, 0, none⟩))) :: x.env, ⟨b, e, ds.length, ds⟩ :: x.S⟩ Q) (hne : isMap e = false := by rfl) : OD P C ops (o :: l) x Q :=
 OD.eff hw (eff_box (hne := hne) ho hd hy (fun h => by rw [h] at hj; cases hj) hds) fun y ⟨b, hy⟩ => hy ▸ k b

theorem OD.store {t : TypeId} {k b o' n : Nat} {B : Blk} {d : D} {cs' : List D} {y z : Operand} (hw : Wants ops x o true) (ho : o.op = .store t y z) (hdst : o.dst = none) (hy : opd x y = .v (.pointer (some ⟨b, o', none⟩)))
  (hk : x.S[k]? = some B) (hb : B.b = b) (hz : opd x z = d) (hj : solid d = true) (h1 : (cellsOf d).all one = true) (hn : ∀ w, (sizeOf t).run P w = .ok n w) (hln : (cellsOf d).length = n) (hl : Nat.ble (o' + n) B.cs.length = true) (hcs : setAll B.cs o' (cellsOf d) = cs')
  (K : OD P C ops l ⟨x.n, x.env, x.S.set k { B with cs := cs' }⟩ Q) (hne : isMap B.e = false := by rfl) : OD P C ops (o :: l) x Q :=
 OD.eff hw (eff_store (hne := hne) ho hdst hy hk hb hz (fun h => by rw [h] at hj; cases hj) h1 hn hln (Nat.le_of_ble_eq_true hl) hcs) fun y hy => hy ▸ K

/-- A call with a contract that says one thing. -/
theorem OD.call {f t : Nat} {fo : Operand} {ars : Array Operand} {ts : Array TypeId} {args : List D} {Sf R : List Blk} {post : D → List Blk → Prop} (hw : Wants ops x o true) (ho : o.op = .call { callee := .value fo, args := ars, argTypes := ts }) (hd : o.dst = some t)
    (hf : fo = .func f) (hcall : ∀ args w, (callFunc f args).run P w = .ok (.enter f args) w) (hc : VC P C.G f args Sf post) (ha : Opds x ars.toList args) (hp : x.S.Perm (Sf ++ R))
    (K : ∀ r S', post r S' → OD P C ops l ⟨x.n, (t, r) :: x.env, S' ++ R⟩ Q) : OD P C ops (o :: l) x Q :=
  OD.eff hw (eff_call ho hd hf hcall ha.eq hp hc) fun y ⟨r, S', h, hy⟩ => hy ▸ K r S' h

theorem OD.callP {f t : Nat} {fo : Operand} {ars : Array Operand} {ts : Array TypeId} {args : List D} {r : D} (hw : Wants ops x o true) (ho : o.op = .call { callee := .value fo, args := ars, argTypes := ts }) (hd : o.dst = some t)
  (hf : fo = .func f) (hcall : ∀ args w, (callFunc f args).run P w = .ok (.enter f args) w) (hc : VP P C.G f args r) (ha : Opds x ars.toList args)
  (K : OD P C ops l (x.put t r) Q) : OD P C ops (o :: l) x Q :=
 OD.call hw ho hd hf hcall hc ha (perm_none _) fun r' S' ⟨h1, h2⟩ => by subst h1 h2; exact K

theorem OD.callv {f t : Nat} {fo : Operand} {ars : Array Operand} {ts : Array TypeId} {args caps all : List D} {Sf R : List Blk} {post : D → List Blk → Prop} (hw : Wants ops x o true) (ho : o.op = .call { callee := .value fo, args := ars, argTypes := ts }) (hd : o.dst = some t)
  (hf : opd x fo = .clo (.func f) caps) (hcall : ∀ args w, (callFunc f args).run P w = .ok (.enter f args) w) (hc : VC P C.G f all Sf post) (hall : args ++ caps = all) (ha : Opds x ars.toList args) (hp : x.S.Perm (Sf ++ R))
  (K : ∀ r S', post r S' → OD P C ops l ⟨x.n, (t, r) :: x.env, S' ++ R⟩ Q) : OD P C ops (o :: l) x Q :=
 OD.eff hw (eff_callv ho hd hf hcall (by rw [ha.eq, hall]) hp hc) fun y ⟨r, S', h, hy⟩ => hy ▸ K r S' h

theorem OD.append {s y : Operand} {t e tt sz bytes n m b cap k : Nat} {z : Value} {B : Blk} {cs : List D} (hw : Wants ops x o true) (ho : o.op = .call { callee := .builtin .append, args := #[s, y], argTypes := #[t, t] }) (hd : o.dst = some tt)
  (ht : P.underlying t = some (.slice e)) (hi : (P.info? e).map (fun i => (i.zero, i.size, i.bytes)) = some (some z, sz, bytes)) (hzs : z.cells.size = sz) (hsz : 0 < sz)
  (hs : opd x s = .v (.slice (some ⟨b, 0, none⟩) n cap)) (hk : x.S[k]? = some B) (hb : B.b = b) (he : B.e = e) (hsize : B.size = cap * sz) (hl : B.cs.length = n * sz) (hn : n ≤ cap) (hcap : cap ≤ maxLen)
  (hy : opd x y = .list sz cs m) (hone : ∀ d ∈ cs, one d = true) (hm : 0 < m) (h63 : n + m ≤ maxLen) (hbytes : (n + m) * bytes ≤ 140737488355328)
  (K : ∀ b' cap', n + m ≤ cap' → cap' ≤ maxLen → OD P C ops l ⟨x.n, (tt, .v (.slice (some ⟨b', 0, none⟩) (n + m) cap')) :: x.env, ⟨b', e, cap' * sz, B.cs ++ cs⟩ :: x.S.eraseIdx k⟩ Q) (hne : isMap B.e = false := by rfl) : OD P C ops (o :: l) x Q :=
 OD.eff hw (eff_append (hne := hne) ho hd ht hi hzs hsz hs hk hb he hsize hl hn hcap hy hone hm h63 hbytes) fun y ⟨b', cap', h1, h2, hy⟩ => hy ▸ K b' cap' h1 h2

theorem OD.appendNil {s y : Operand} {t e tt sz bytes m : Nat} {z : Value} {cs : List D} (hw : Wants ops x o true) (ho : o.op = .call { callee := .builtin .append, args := #[s, y], argTypes := #[t, t] }) (hd : o.dst = some tt)
  (ht : P.underlying t = some (.slice e)) (hi : (P.info? e).map (fun i => (i.zero, i.size, i.bytes)) = some (some z, sz, bytes)) (hzs : z.cells.size = sz) (hsz : 0 < sz)
  (hs : opd x s = .v (.slice none 0 0)) (hy : opd x y = .list sz cs m) (hone : ∀ d ∈ cs, one d = true) (hm : 0 < m) (h63 : m ≤ maxLen) (hbytes : m * bytes ≤ 140737488355328)
  (K : ∀ b' cap', m ≤ cap' → cap' ≤ maxLen → OD P C ops l ⟨x.n, (tt, .v (.slice (some ⟨b', 0, none⟩) m cap')) :: x.env, ⟨b', e, cap' * sz, cs⟩ :: x.S⟩ Q) (hne : isMap e = false := by rfl) : OD P C ops (o :: l) x Q :=
 OD.eff hw (eff_appendNil (hne := hne) ho hd ht hi hzs hsz hs hy hone hm h63 hbytes) fun y ⟨b', cap', h1, h2, hy⟩ => hy ▸ K b' cap' h1 h2

theorem OD.split {t : Nat} {b : Bool} (hb : look t x.env = .v (.bool b)) (h1 : b = true → OD P C ops l x Q) (h2 : b = false → OD P C ops l x Q) : OD P C ops l x Q := by
 cases h : b
 ·exact h2 h
 ·exact h1 h

/-- A nil check that is passed. -/
theorem still_nilCheck {z : Operand} {a' : Addr} (ho : o.op = .nilCheck z) (hz : opd x z = .v (.pointer (some a'))) : Still P G x o .none (.v (.pointer (some a'))) := fun C a w _ h =>
  ⟨_, .v _, fun w' _ => by unfold execOp; simp only [ho, h.flat hz]; rfl⟩
theorem still_nilCheckI {z : Operand} {cs : List D} {off : Nat} (ho : o.op = .nilCheck z) (hz : opd x z = .iptr cs off) : Still P G x o .none (.iptr cs off) := fun C a w _ h => by
 have hr := h.eval z
 rw [hz] at hr
 generalize hg : a.eval z = u at hr
 cases hr with
 | iptr _ _ b o'' g hb hL hc hrr => exact ⟨_, .iptr cs off b o'' g hb hL hc hrr, fun w' _ => by unfold execOp; simp only [ho, hg]; rfl⟩

/-! ### Lists of structs -/

theorem fm_len {α : Type} {g : α → List D} {sz : Nat} (hg : ∀ a, (g a).length = sz) : ∀ (ls : List α), (ls.flatMap g).length = ls.length * sz
 | [] => by simp
 | a :: r => by rw [List.flatMap_cons, List.length_append, hg, fm_len hg r, List.length_cons, Nat.add_mul]; omega

theorem fm_drop {α : Type} {g : α → List D} {sz : Nat} (hg : ∀ a, (g a).length = sz) : ∀ (ls : List α) (i : Nat), (ls.flatMap g).drop (i * sz) = (ls.drop i).flatMap g
 | [], i => by simp
 | a :: r, 0 => by simp
 | a :: r, i + 1 => by
  rw [List.flatMap_cons, List.drop_succ_cons, ← fm_drop hg r i, Nat.add_mul, Nat.one_mul, Nat.add_comm, ← List.drop_drop]
  congr 1
  rw [← hg a, List.drop_left]

theorem fm_take {α : Type} {g : α → List D} {sz : Nat} (hg : ∀ a, (g a).length = sz) : ∀ (ls : List α) (i : Nat), (ls.flatMap g).take (i * sz) = (ls.take i).flatMap g
 | [], i => by simp
 | a :: r, 0 => by simp
 | a :: r, i + 1 => by
  rw [List.flatMap_cons, List.take_succ_cons, List.flatMap_cons, ← fm_take hg r i, Nat.add_mul, Nat.one_mul, Nat.add_comm, ← hg a, List.take_length_add_append]

/-- One element's cells. -/
theorem fm_el {α : Type} {g : α → List D} {sz : Nat} (hg : ∀ a, (g a).length = sz) {ls : List α} {i : Nat} (hi : i < ls.length) : ((ls.flatMap g).drop (i * sz)).take sz = g ls[i] := by
  rw [fm_drop hg, List.drop_eq_getElem_cons hi, List.flatMap_cons, ← hg ls[i], List.take_left]

theorem fm_cell {α : Type} {g : α → List D} {sz : Nat} (hg : ∀ a, (g a).length = sz) {ls : List α} {i j : Nat} {d : D} (hi : i < ls.length) (hd : (g ls[i])[j]? = some d) : (ls.flatMap g)[i * sz + j]? = some d := by
 have h := fm_el hg hi
 have hj := (List.getElem?_eq_some_iff.1 hd).1
 rw [hg] at hj
 rw [← hd, ← h, List.getElem?_take_of_lt hj, List.getElem?_drop]

theorem fm_cell0 {α : Type} {g : α → List D} {sz : Nat} (hg : ∀ a, (g a).length = sz) {ls : List α} {i : Nat} {d : D} (hi : i < ls.length) (hd : (g ls[i])[0]? = some d) : (ls.flatMap g)[i * sz]? = some d := fm_cell hg hi hd

theorem fm_one {α : Type} {g : α → List D} (hg : ∀ a, (g a).all one = true) (ls : List α) : ∀ d ∈ ls.flatMap g, one d = true := fun d hd => by
 obtain ⟨a, _, h⟩ := List.mem_flatMap.1 hd
 exact List.all_eq_true.1 (hg a) d h

/-- The head of a list of structs. -/
theorem still_fhead {α : Type} {g : α → List D} {t e : TypeId} {sz h' : Nat} (hg : ∀ a, (g a).length = sz) {ls : List α} {y : Operand} {lo hi : Option Operand} (ho : o.op = .slice t y lo hi none) (hy : opd x y = .list sz (ls.flatMap g) ls.length) (hlo : bound x lo 0 0) (hhi : bound x hi h' ls.length)
    (hu : ∀ w, (underlying t).run P w = .ok (.slice e) w) (hs : ∀ w, (sizeOf e).run P w = .ok sz w) (h2 : h' ≤ ls.length) : Still P G x o .none (.list sz ((ls.take h').flatMap g) (ls.take h').length) := by
  have := still_slice (P := P) (G := G) ho hy hlo hhi hu hs (Nat.zero_le _) h2
  rw [Nat.zero_mul, List.drop_zero, Nat.sub_zero, fm_take hg] at this
  rw [List.length_take, Nat.min_eq_left h2]
  exact this

/-- Its tail. -/
theorem still_ftail {α : Type} {g : α → List D} {t e : TypeId} {sz l' : Nat} (hg : ∀ a, (g a).length = sz) {ls : List α} {y : Operand} {lo hi : Option Operand} (ho : o.op = .slice t y lo hi none) (hy : opd x y = .list sz (ls.flatMap g) ls.length) (hlo : bound x lo l' 0) (hhi : bound x hi ls.length ls.length)
    (hu : ∀ w, (underlying t).run P w = .ok (.slice e) w) (hs : ∀ w, (sizeOf e).run P w = .ok sz w) (h2 : l' ≤ ls.length) : Still P G x o .none (.list sz ((ls.drop l').flatMap g) (ls.drop l').length) := by
  have := still_slice (P := P) (G := G) ho hy hlo hhi hu hs h2 (Nat.le_refl _)
  rw [fm_drop hg, List.take_of_length_le (by rw [fm_len hg, List.length_drop]; exact Nat.le_refl _)] at this
  rw [List.length_drop]
  exact this

end Go.Proofs.Ythnobhekodiciaa.V

namespace Go.Proofs.Ythnobhekodiciaa.V
open Go.RowKit
set_option linter.unusedVariables false
set_option linter.unusedSimpArgs false

variable {P : Program} {C : Ctx} {Q : Exit → St → Prop} {x : St} {ops : Array Oper} {o : Oper} {S1 T : List Nat} {fuel i : Nat} {ld : Array Bool}

theorem mem_bks {S : List Blk} {k : Nat} {B : Blk} (hk : S[k]? = some B) : B.b ∈ bks S := List.mem_map.2 ⟨B, List.mem_of_getElem? hk, rfl⟩

theorem safe_blk {S : List Blk} {k k0 : Nat} {B : Blk} (hk : x.S[k]? = some B) (h0 : S[k0]? = some B) : Safe x (bks S) (.blk k) := ⟨B, hk, mem_bks h0⟩

theorem AD.split {t : Nat} {b : Bool} (hb : look t x.env = .v (.bool b)) (h1 : b = true → AD P C ops S1 T fuel ld x Q) (h2 : b = false → AD P C ops S1 T fuel ld x Q) : AD P C ops S1 T fuel ld x Q := by
 cases h : b
 ·exact h2 h
 ·exact h1 h
theorem AD0.split {t : Nat} {b : Bool} (hb : look t x.env = .v (.bool b)) (h1 : b = true → AD0 P C ops S1 T fuel ld x Q) (h2 : b = false → AD0 P C ops S1 T fuel ld x Q) : AD0 P C ops S1 T fuel ld x Q := by
 cases h : b
 ·exact h2 h
 ·exact h1 h
theorem AStep.split {t : Nat} {b : Bool} (hb : look t x.env = .v (.bool b)) (h1 : b = true → AStep P C ops S1 T fuel ld x Q i) (h2 : b = false → AStep P C ops S1 T fuel ld x Q i) : AStep P C ops S1 T fuel ld x Q i := by
 cases h : b
 ·exact h2 h
 ·exact h1 h

theorem AStep.eff0 {post : St → Prop} (hi : ops[i]? = some o) (hw : Wants ops x o true) (h : Eff P C.G x o [] post) (k : ∀ y, post y → AD P C ops S1 T fuel (ld.setIfInBounds i true) y Q) : AStep P C ops S1 T fuel ld x Q i :=
 AStep.eff hi hw h (fun _ _ _ _ _ _ hb => by simp at hb) (fun _ hb => by simp at hb) k

theorem away {C : Ctx} {a : Act} {w : World} (h : Sim C x a w) {k : Nat} {B : Blk} (hk : x.S[k]? = some B) (hT : ∀ b ∈ T, b ∈ bks (x.S.eraseIdx k)) : ∀ b ∈ T, b ∉ [B.b] := fun b hb hm => by
 have hp : (bks x.S).Perm (B.b :: bks (x.S.eraseIdx k)) := by have := (perm_pick hk).map Blk.b; simpa [bks] using this
 have hn := (List.nodup_cons.1 (hp.nodup_iff.1 h.own.apart)).1
 have : b = B.b := by simpa using hm
 exact hn (this ▸ hT b hb)

theorem AStep.alloc {e : TypeId} {z : Value} {t : Nat} {ds : List D} (hi : ops[i]? = some o) (hw : Wants ops x o true) (ho : o.op = .alloc e) (hd : o.dst = some t) (hz : ∀ w, (zeroValue e).run P w = .ok z w) (hds : z.cells.toList.map .v = ds)
  (k : ∀ b, AD P C ops S1 T fuel (ld.setIfInBounds i true) ⟨x.n, (t, .v (.pointer (some ⟨b, 0, none⟩))) :: x.env, ⟨b, e, ds.length, ds⟩ :: x.S⟩ Q) (hne : isMap e = false := by rfl) : AStep P C ops S1 T fuel ld x Q i :=
 AStep.eff0 hi hw (eff_alloc (hne := hne) ho hd hz hds) fun y ⟨b, hy⟩ => hy ▸ k b

theorem AStep.box {e : TypeId} {z : Operand} {t : Nat} {d : D} {ds : List D} (hi : ops[i]? = some o) (hw : Wants ops x o true) (ho : o.op = .box e z) (hd : o.dst = some t) (hy : opd x z = d) (hj : solid d = true) (hds : cellsOf d = ds)
  (k : ∀ b, AD P C ops S1 T fuel (ld.setIfInBounds i true) ⟨x.n, (t, .v (.pointer (some ⟨b, 0, none⟩))) :: x.env, ⟨b, e, ds.length, ds⟩ :: x.S⟩ Q) (hne : isMap e = false := by rfl) : AStep P C ops S1 T fuel ld x Q i :=
 AStep.eff0 hi hw (eff_box (hne := hne) ho hd hy (fun h => by rw [h] at hj; cases hj) hds) fun y ⟨b, hy⟩ => hy ▸ k b

theorem AStep.bldS {t e : TypeId} {tt len sz : Nat} {ps : List (Nat × Operand)} {pl : List (Nat × D)} {z : Value} {zvs : List Value} {ds : List D} (hi : ops[i]? = some o) (hw : Wants ops x o true) (ho : o.op = .buildSlice t len ps.toArray) (hdst : o.dst = some tt) (hz : ∀ w, (zeroValue e).run P w = .ok z w)
  (hu : ∀ w, (underlying t).run P w = .ok (.slice e) w) (hs : ∀ w, (sizeOf e).run P w = .ok sz w) (hl : Nat.ble 1 (len * sz) = true) (hl2 : Nat.ble (len * sz) (2 ^ 24) = true) (hzs : (Array.range (len * sz)).map (fun i => z.cells[i % z.cells.size]!) = zvs.toArray)
  (hps : Parts x ps pl) (hj : pl.all (fun p => solid p.2) = true) (hd : fillD (fun i => some (i * sz, sz)) (zvs.map .v) pl = some ds)
  (k : ∀ b, AD P C ops S1 T fuel (ld.setIfInBounds i true) ⟨x.n, (tt, .v (.slice (some ⟨b, 0, none⟩) len len)) :: x.env, ⟨b, e, ds.length, ds⟩ :: x.S⟩ Q) (hne : isMap e = false := by rfl) : AStep P C ops S1 T fuel ld x Q i := by
 refine AStep.eff0 hi hw (eff_buildSlice (hne := hne) (zs := zvs.map .v) (ds := ds) ho hdst hz hu hs (Nat.le_of_ble_eq_true hl) (Nat.le_of_ble_eq_true hl2) ?_ ?_ ?_ ?_) ?_
 ·rw [hzs]; congr 1; rw [List.map_map]; exact (List.map_id zvs).symm
 ·intro d hd
  obtain ⟨u, _, rfl⟩ := List.mem_map.1 hd
  exact ⟨u, rfl⟩
 ·rw [hps.eq]; exact parts_solid hj
 ·rw [hps.eq]; exact hd
 ·rintro _ ⟨b, rfl⟩; exact k b

theorem AStep.store {t : TypeId} {k b o' n : Nat} {B : Blk} {d : D} {cs' : List D} {y z : Operand} (hi : ops[i]? = some o) (hw : Wants ops x o true) (ho : o.op = .store t y z) (hdst : o.dst = none) (hy : opd x y = .v (.pointer (some ⟨b, o', none⟩)))
  (hk : x.S[k]? = some B) (hb : B.b = b) (hz : opd x z = d) (hj : solid d = true) (h1 : (cellsOf d).all one = true) (hn : ∀ w, (sizeOf t).run P w = .ok n w) (hln : (cellsOf d).length = n) (hl : Nat.ble (o' + n) B.cs.length = true) (hcs : setAll B.cs o' (cellsOf d) = cs')
  (hT : ∀ b ∈ T, b ∈ bks (x.S.eraseIdx k))
  (K : AD P C ops S1 T fuel (ld.setIfInBounds i true) ⟨x.n, x.env, x.S.set k { B with cs := cs' }⟩ Q) (hne : isMap B.e = false := by rfl) : AStep P C ops S1 T fuel ld x Q i :=
 AStep.eff hi hw (eff_store (hne := hne) ho hdst hy hk hb hz (fun h => by rw [h] at hj; cases hj) h1 hn hln (Nat.le_of_ble_eq_true hl) hcs) (fun C a w hs b' hb' => hb ▸ away hs hk hT b' hb') (fun b' hb' => by
  have : b' = b := by simpa using hb'
  subst this; rw [← hb]; exact mem_bks hk) fun y hy => hy ▸ K

theorem AStep.callP {f t : Nat} {fo : Operand} {ars : Array Operand} {ts : Array TypeId} {args : List D} {r : D} (hi : ops[i]? = some o) (hw : Wants ops x o true) (ho : o.op = .call { callee := .value fo, args := ars, argTypes := ts }) (hd : o.dst = some t)
  (hf : fo = .func f) (hcall : ∀ args w, (callFunc f args).run P w = .ok (.enter f args) w) (hc : VP P C.G f args r) (ha : Opds x ars.toList args)
  (K : AD P C ops S1 T fuel (ld.setIfInBounds i true) (x.put t r) Q) : AStep P C ops S1 T fuel ld x Q i :=
 AStep.eff0 hi hw (eff_call ho hd hf hcall ha.eq (perm_none _) hc) fun y ⟨r', S', ⟨h1, h2⟩, hy⟩ => by subst h1 h2; exact hy ▸ K

/-- A call that owns the blocks Sf for its time: nobody else in the region looks at them first. -/
theorem AStep.call {f t : Nat} {fo : Operand} {ars : Array Operand} {ts : Array TypeId} {args : List D} {Sf R : List Blk} {post : D → List Blk → Prop} (hi : ops[i]? = some o) (hw : Wants ops x o true) (ho : o.op = .call { callee := .value fo, args := ars, argTypes := ts }) (hd : o.dst = some t)
    (hf : fo = .func f) (hcall : ∀ args w, (callFunc f args).run P w = .ok (.enter f args) w) (hc : VC P C.G f args Sf post) (ha : Opds x ars.toList args) (hp : x.S.Perm (Sf ++ R)) (hT : ∀ b ∈ T, b ∈ bks R)
    (K : ∀ r S', post r S' → AD P C ops S1 T fuel (ld.setIfInBounds i true) ⟨x.n, (t, r) :: x.env, S' ++ R⟩ Q) : AStep P C ops S1 T fuel ld x Q i :=
  AStep.eff hi hw (eff_call ho hd hf hcall ha.eq hp hc) (fun C a w hs b hb hm => by
    have h1 : (bks x.S).Perm (bks Sf ++ bks R) := by have := hp.map Blk.b; simpa [bks] using this
    have h2 := h1.nodup_iff.1 hs.own.apart
    exact (List.nodup_append.1 h2).2.2 b hm b (hT b hb) rfl) (fun b hb => by
    have h1 : (bks x.S).Perm (bks Sf ++ bks R) := by have := hp.map Blk.b; simpa [bks] using this
    exact h1.symm.subset (List.mem_append_left _ hb)) fun y ⟨r, S', h, hy⟩ => hy ▸ K r S' h

theorem AStep.append {s y : Operand} {t e tt sz bytes n m b cap k : Nat} {z : Value} {B : Blk} {cs : List D} (hi' : ops[i]? = some o) (hw : Wants ops x o true) (ho : o.op = .call { callee := .builtin .append, args := #[s, y], argTypes := #[t, t] }) (hd : o.dst = some tt)
  (ht : P.underlying t = some (.slice e)) (hi : (P.info? e).map (fun i => (i.zero, i.size, i.bytes)) = some (some z, sz, bytes)) (hzs : z.cells.size = sz) (hsz : 0 < sz)
  (hs : opd x s = .v (.slice (some ⟨b, 0, none⟩) n cap)) (hk : x.S[k]? = some B) (hb : B.b = b) (he : B.e = e) (hsize : B.size = cap * sz) (hl : B.cs.length = n * sz) (hn : n ≤ cap) (hcap : cap ≤ maxLen)
  (hy : opd x y = .list sz cs m) (hone : ∀ d ∈ cs, one d = true) (hm : 0 < m) (h63 : n + m ≤ maxLen) (hbytes : (n + m) * bytes ≤ 140737488355328) (hT : ∀ b ∈ T, b ∈ bks (x.S.eraseIdx k))
  (K : ∀ b' cap', n + m ≤ cap' → cap' ≤ maxLen → AD P C ops S1 T fuel (ld.setIfInBounds i true) ⟨x.n, (tt, .v (.slice (some ⟨b', 0, none⟩) (n + m) cap')) :: x.env, ⟨b', e, cap' * sz, B.cs ++ cs⟩ :: x.S.eraseIdx k⟩ Q) (hne : isMap B.e = false := by rfl) : AStep P C ops S1 T fuel ld x Q i :=
 AStep.eff hi' hw (eff_append (hne := hne) ho hd ht hi hzs hsz hs hk hb he hsize hl hn hcap hy hone hm h63 hbytes) (fun C a w hs b' hb' => hb ▸ away hs hk hT b' hb') (fun b' hb' => by
  have : b' = b := by simpa using hb'
  subst this; rw [← hb]; exact mem_bks hk) fun y ⟨b', cap', h1, h2, hy⟩ => hy ▸ K b' cap' h1 h2

theorem AStep.appendNil {s y : Operand} {t e tt sz bytes m : Nat} {z : Value} {cs : List D} (hi' : ops[i]? = some o) (hw : Wants ops x o true) (ho : o.op = .call { callee := .builtin .append, args := #[s, y], argTypes := #[t, t] }) (hd : o.dst = some tt)
  (ht : P.underlying t = some (.slice e)) (hi : (P.info? e).map (fun i => (i.zero, i.size, i.bytes)) = some (some z, sz, bytes)) (hzs : z.cells.size = sz) (hsz : 0 < sz)
  (hs : opd x s = .v (.slice none 0 0)) (hy : opd x y = .list sz cs m) (hone : ∀ d ∈ cs, one d = true) (hm : 0 < m) (h63 : m ≤ maxLen) (hbytes : m * bytes ≤ 140737488355328)
  (K : ∀ b' cap', m ≤ cap' → cap' ≤ maxLen → AD P C ops S1 T fuel (ld.setIfInBounds i true) ⟨x.n, (tt, .v (.slice (some ⟨b', 0, none⟩) m cap')) :: x.env, ⟨b', e, cap' * sz, cs⟩ :: x.S⟩ Q) (hne : isMap e = false := by rfl) : AStep P C ops S1 T fuel ld x Q i :=
 AStep.eff0 hi' hw (eff_appendNil (hne := hne) ho hd ht hi hzs hsz hs hy hone hm h63 hbytes) fun y ⟨b', cap', h1, h2, hy⟩ => hy ▸ K b' cap' h1 h2

end Go.Proofs.Ythnobhekodiciaa.V
