/-
  A walk at the level of values, over any program: what a value in a slot reads as (D), the blocks that a call owns (Blk), states (St), and what an operation makes of them. Part 1: states and their worlds.
-/
import Derived.WalkKit
import Derived.Deep.MidRow
import Derived.Deep.AppendLies
import Derived.OrdersHeld
namespace Go.Proofs.YtcogdagfcndbfaaDoor.V
open Go.RowKit
set_option linter.unusedVariables false
set_option linter.unusedSimpArgs false

/-- What a slot's value reads as: a value as it stands, a list that nobody writes any more (its cells, sz to an element), a place in one, a struct's cells, results, a function with what it holds. -/
inductive D where
  | v (x : Value)
  | list (sz : Nat) (cs : List D) (len : Nat)
  | iptr (cs : List D) (off : Nat)
  | agg (cs : List D)
  | tup (cs : List D)
  | clo (f : Fn) (cs : List D)
  | junk
  deriving Inhabited

/-- In world w the value reads so; L: the blocks that are owned (no list lies there). -/
inductive Rep (w : World) (L : Nat → Prop) : D → Value → Prop
  | v (x : Value) : Rep w L (.v x) x
  | nil (sz : Nat) : Rep w L (.list sz [] 0) (.slice none 0 0)
  | list (sz : Nat) (cs : List D) (len b o cap : Nat) (f : Nat → Value) (hl : cs.length = len * sz) (h1 : len ≤ cap) (h2 : cap ≤ maxLen) (hb : b < w.heap.size) (hL : ¬ L b)
      (hc : ∀ i, i < cs.length → w.cell? ⟨b, o + i, none⟩ = some (f i)) (hr : ∀ i (h : i < cs.length), Rep w L cs[i] (f i)) : Rep w L (.list sz cs len) (.slice (some ⟨b, o, none⟩) len cap)
  | iptr (cs : List D) (off b o : Nat) (f : Nat → Value) (hb : b < w.heap.size) (hL : ¬ L b)
      (hc : ∀ i, i < cs.length → w.cell? ⟨b, o + i, none⟩ = some (f i)) (hr : ∀ i (h : i < cs.length), Rep w L cs[i] (f i)) : Rep w L (.iptr cs off) (.pointer (some ⟨b, o + off, none⟩))
  | agg (cs : List D) (vs : List Value) (hl : vs.length = cs.length) (hr : ∀ i (h : i < cs.length) (h' : i < vs.length), Rep w L cs[i] vs[i]) : Rep w L (.agg cs) (.agg vs.toArray)
  | tup (cs : List D) (vs : List Value) (hl : vs.length = cs.length) (hr : ∀ i (h : i < cs.length) (h' : i < vs.length), Rep w L cs[i] vs[i]) : Rep w L (.tup cs) (.tuple vs.toArray)
  | clo (fn : Fn) (cs : List D) (vs : List Value) (hl : vs.length = cs.length) (hr : ∀ i (h : i < cs.length) (h' : i < vs.length), Rep w L cs[i] vs[i]) : Rep w L (.clo fn cs) (.func fn #[] vs.toArray)
  | junk (x : Value) : Rep w L .junk x

theorem lt_of_same {w w' : World} {b : Nat} (hb : b < w.heap.size) (h : w'.heap[b]? = w.heap[b]?) : b < w'.heap.size := by
  rcases Nat.lt_or_ge b w'.heap.size with h' | h'
  · exact h'
  · rw [Array.getElem?_eq_none h', Array.getElem?_eq_getElem hb] at h; cases h

theorem Rep.mono {w w' : World} {L L' : Nat → Prop} {d : D} {v : Value} (h : Rep w L d v) (H : ∀ b, b < w.heap.size → ¬ L b → w'.heap[b]? = w.heap[b]? ∧ ¬ L' b) : Rep w' L' d v := by
  induction h with
  | v x => exact .v x
  | nil sz => exact .nil sz
  | list sz cs len b o cap f hl h1 h2 hb hL hc hr ih =>
    have hh := H b hb hL
    exact .list sz cs len b o cap f hl h1 h2 (lt_of_same hb hh.1) hh.2 (fun i hi => (World.cell?_of_block (w := w) (a := ⟨b, o + i, none⟩) hh.1).trans (hc i hi)) ih
  | iptr cs off b o f hb hL hc hr ih =>
    have hh := H b hb hL
    exact .iptr cs off b o f (lt_of_same hb hh.1) hh.2 (fun i hi => (World.cell?_of_block (w := w) (a := ⟨b, o + i, none⟩) hh.1).trans (hc i hi)) ih
  | agg cs vs hl hr ih => exact .agg cs vs hl ih
  | tup cs vs hl hr ih => exact .tup cs vs hl ih
  | clo fn cs vs hl hr ih => exact .clo fn cs vs hl ih
  | junk x => exact .junk x

/-- A block of one's own: its number, its type, how many cells it has, what the first ones read as. -/
structure Blk where
  b : Nat
  e : TypeId
  size : Nat
  cs : List D
  deriving Inhabited

def BlkAt (w : World) (L : Nat → Prop) (B : Blk) : Prop :=
  B.b < w.heap.size ∧ ∃ cur : Array Value, w.heap[B.b]? = some (.cells cur B.e (0, 0)) ∧ cur.size = B.size ∧ B.cs.length ≤ B.size ∧ ∀ i (h : i < B.cs.length), ∃ u, cur[i]? = some u ∧ Rep w L B.cs[i] u

structure Ctx where
  X : Nat → Prop
  w0 : World
  S0 : List Nat
  G : List (Nat × List Value)

structure St where
  n : Nat
  env : List (Nat × D)
  S : List Blk

def look (t : Nat) : List (Nat × D) → D
  | [] => .junk
  | (i, d) :: r => bif Nat.beq i t then d else look t r

theorem look_cons (t i : Nat) (d : D) (l : List (Nat × D)) : look t ((i, d) :: l) = if i = t then d else look t l := by
  rw [look]
  by_cases e : i = t
  · subst e; simp
  · have : Nat.beq i t = false := by
      cases h : Nat.beq i t with
      | false => rfl
      | true => exact absurd (Nat.eq_of_beq_eq_true h) e
    rw [this, if_neg e]; rfl

def bks (S : List Blk) : List Nat := S.map (·.b)

def live (X : Nat → Prop) (S : List Blk) (b : Nat) : Prop := X b ∨ b ∈ bks S

/-- Nothing turned but one's own blocks, of which none is another one's. -/
structure Fr (w : World) (S : List Nat) (w' : World) (S' : List Nat) : Prop where
  os : w'.os = w.os
  tape : w'.tape = w.tape
  output : w'.output = w.output
  size : w.heap.size ≤ w'.heap.size
  block : ∀ b, b < w.heap.size → b ∉ S → w'.heap[b]? = w.heap[b]? ∧ b ∉ S'

theorem Fr.refl (w : World) (S : List Nat) : Fr w S w S := ⟨rfl, rfl, rfl, Nat.le_refl _, fun _ _ h => ⟨rfl, h⟩⟩

theorem Fr.trans {w1 w2 w3 : World} {S1 S2 S3 : List Nat} (h : Fr w1 S1 w2 S2) (k : Fr w2 S2 w3 S3) : Fr w1 S1 w3 S3 :=
  ⟨k.os.trans h.os, k.tape.trans h.tape, k.output.trans h.output, Nat.le_trans h.size k.size, fun b hb hn =>
    have h1 := h.block b hb hn
    have h2 := k.block b (Nat.lt_of_lt_of_le hb h.size) h1.2
    ⟨h2.1.trans h1.1, h2.2⟩⟩

structure Own (w : World) (L : Nat → Prop) (S : List Blk) : Prop where
  at_ : ∀ B ∈ S, BlkAt w L B
  apart : (bks S).Nodup

structure Sim (C : Ctx) (x : St) (a : Act) (w : World) : Prop where
  defers : a.defers = []
  size : a.tmps.size = x.n
  env : ∀ t, t < x.n → Rep w (live C.X x.S) (look t x.env) (a.tmps.getD t undef)
  own : Own w (live C.X x.S) x.S
  fr : Fr C.w0 C.S0 w (bks x.S)
  ex : ∀ b, C.X b → b < C.w0.heap.size ∧ b ∉ C.S0
  tab : ∀ g ∈ C.G, (g.1 < C.w0.heap.size ∧ g.1 ∉ C.S0 ∧ ¬ C.X g.1) ∧ ∀ i v, g.2[i]? = some v → C.w0.cell? ⟨g.1, i, none⟩ = some v

def St.put (x : St) (t : Nat) (d : D) : St := ⟨x.n, (t, d) :: x.env, x.S⟩

theorem Sim.put {C : Ctx} {x : St} {a : Act} {w : World} (h : Sim C x a w) {t : Nat} {d : D} {v : Value} (hd : Rep w (live C.X x.S) d v) : Sim C (x.put t d) (a.put (some t) v) w := by
  refine ⟨h.defers, by simp [Act.put, St.put, h.size], fun i hi => ?_, h.own, h.fr, h.ex, h.tab⟩
  have hs := h.size
  simp only [St.put, look_cons, Act.put] at hi ⊢
  by_cases e : t = i
  · subst e
    rw [if_pos rfl]
    have : (a.tmps.setIfInBounds t v).getD t undef = v := by
      simp [Array.getElem?_setIfInBounds, hs, hi]
    rw [this]; exact hd
  · rw [if_neg e]
    have : (a.tmps.setIfInBounds t v).getD i undef = a.tmps.getD i undef := by
      simp [Array.getElem?_setIfInBounds_ne e]
    rw [this]; exact h.env i hi

theorem Sim.putNone {C : Ctx} {x : St} {a : Act} {w : World} (h : Sim C x a w) (v : Value) : Sim C x (a.put none v) w := h

/-- What a slot that nobody reads any more holds, does not matter. -/
def restr (ts : List Nat) (l : List (Nat × D)) : List (Nat × D) := ts.map fun t => (t, look t l)

theorem look_restr (ts : List Nat) (l : List (Nat × D)) (t : Nat) : look t (restr ts l) = look t l ∨ look t (restr ts l) = .junk := by
  induction ts with
  | nil => exact .inr rfl
  | cons a r ih =>
    simp only [restr, List.map_cons, look_cons]
    by_cases e : a = t
    · rw [if_pos e, e]; exact .inl rfl
    · rw [if_neg e]; exact ih

/-- Weakening: what is known of the first, is known of the second. -/
def Wk (x y : St) : Prop := ∀ C a w, Sim C x a w → Sim C y a w

theorem Wk.refl (x : St) : Wk x x := fun _ _ _ h => h
theorem Wk.trans {x y z : St} (h : Wk x y) (k : Wk y z) : Wk x z := fun C a w s => k C a w (h C a w s)

theorem Wk.restr (n : Nat) (ts : List Nat) (l : List (Nat × D)) (S : List Blk) : Wk ⟨n, l, S⟩ ⟨n, restr ts l, S⟩ := fun C a w h =>
  ⟨h.defers, h.size, fun t ht => by
    rcases look_restr ts l t with e | e
    · simp only [e]; exact h.env t ht
    · simp only [e]; exact .junk _, h.own, h.fr, h.ex, h.tab⟩

/-- A block that is not needed any more is let go. -/
theorem Own.sub {w : World} {X : Nat → Prop} {S S' : List Blk} (h : Own w (live X S) S) (hs : S'.Sublist S) : Own w (live X S') S' :=
  have hsub : (bks S').Sublist (bks S) := List.Sublist.map _ hs
  ⟨fun B hB => by
    obtain ⟨h0, cur, h1, h2, h3, h4⟩ := h.at_ B (hs.subset hB)
    refine ⟨h0, cur, h1, h2, h3, fun i hi => ?_⟩
    obtain ⟨u, hu, hr⟩ := h4 i hi
    exact ⟨u, hu, hr.mono fun b _ hn => ⟨rfl, fun hl => hn (hl.imp id fun q => hsub.subset q)⟩⟩, h.apart.sublist hsub⟩

theorem Wk.drop (n : Nat) (l : List (Nat × D)) (S S' : List Blk) (hs : S'.Sublist S) : Wk ⟨n, l, S⟩ ⟨n, l, S'⟩ := fun C a w h =>
  have hsub : (bks S').Sublist (bks S) := List.Sublist.map _ hs
  ⟨h.defers, h.size, fun t ht => (h.env t ht).mono fun b _ hn => ⟨rfl, fun hl => hn (hl.imp id fun q => hsub.subset q)⟩, h.own.sub hs,
    ⟨h.fr.os, h.fr.tape, h.fr.output, h.fr.size, fun b hb hn => ⟨(h.fr.block b hb hn).1, fun q => (h.fr.block b hb hn).2 (hsub.subset q)⟩⟩, h.ex, h.tab⟩

/-- A slot reads otherwise. -/
theorem Wk.as {n : Nat} {l l' : List (Nat × D)} {S : List Blk} (H : ∀ (C : Ctx) (a : Act) (w : World), Sim C ⟨n, l, S⟩ a w → ∀ t, t < n → ∀ v, Rep w (live C.X S) (look t l) v → Rep w (live C.X S) (look t l') v) : Wk ⟨n, l, S⟩ ⟨n, l', S⟩ := fun C a w h =>
  ⟨h.defers, h.size, fun t ht => H C a w h t ht _ (h.env t ht), h.own, h.fr, h.ex, h.tab⟩

theorem Rep.v_eq {w : World} {L : Nat → Prop} {x y : Value} (h : Rep w L (.v x) y) : y = x := by cases h; rfl

/-- What an operand reads as. -/
def opd (x : St) : Operand → D
  | .tmp t => bif Nat.blt t x.n then look t x.env else .junk
  | .const v => .v v
  | .global g => .v (.pointer (some ⟨g, 0, none⟩))
  | .func f => .clo (.func f) []

theorem Sim.eval {C : Ctx} {x : St} {a : Act} {w : World} (h : Sim C x a w) (o : Operand) : Rep w (live C.X x.S) (opd x o) (a.eval o) := by
  cases o with
  | tmp t =>
    simp only [opd, Act.eval]
    cases ht : Nat.blt t x.n with
    | true => exact h.env t (Nat.le_of_ble_eq_true ht)
    | false => exact .junk _
  | const v => exact .v _
  | global g => exact .v _
  | func f => exact .clo (.func f) [] [] rfl (fun i h => by simp at h)

theorem Sim.flat {C : Ctx} {x : St} {a : Act} {w : World} (h : Sim C x a w) {o : Operand} {u : Value} (ho : opd x o = .v u) : a.eval o = u := by
  have := h.eval o
  rw [ho] at this
  exact this.v_eq

/-- An owned block of the state. -/
theorem Sim.blk {C : Ctx} {x : St} {a : Act} {w : World} (h : Sim C x a w) {k : Nat} {B : Blk} (hk : x.S[k]? = some B) : BlkAt w (live C.X x.S) B := h.own.at_ B (List.mem_of_getElem? hk)

theorem live_blk {X : Nat → Prop} {S : List Blk} {k : Nat} {B : Blk} (hk : S[k]? = some B) : live X S B.b := .inr (List.mem_map.2 ⟨B, List.mem_of_getElem? hk, rfl⟩)

/-- The tables stand as they stood. -/
theorem Sim.tabAt {C : Ctx} {x : St} {a : Act} {w : World} (h : Sim C x a w) {g : Nat × List Value} (hg : g ∈ C.G) {i : Nat} {v : Value} (hi : g.2[i]? = some v) : w.cell? ⟨g.1, i, none⟩ = some v := by
  obtain ⟨⟨h1, h2, h3⟩, h4⟩ := h.tab g hg
  exact (World.cell?_of_block (w := C.w0) (a := ⟨g.1, i, none⟩) (h.fr.block g.1 h1 h2).1).trans (h4 i v hi)

end Go.Proofs.YtcogdagfcndbfaaDoor.V
