/-
  What the proof of ParseLists leans on, part 1 of 4: walks of the program's functions at the level of values, and plain facts of what they compute.
-/
import Derived.WalkKit
import Derived.Deep.MidRow
import Derived.Deep.AppendLies
import Derived.OrdersHeld
import Derived.IntWalk
import Derived.Laws.Cover3
import Derived.ChangeKeysEq
import Derived.ProofKit
import Derived.OpenShut
import Derived.Lib.LaidTab
import Derived.Below
import Derived.Deep.Slices
import Derived.ArgAppend
import Derived.Lib.AppendStr
import Derived.MapKept
import Derived.RangeFuncLeaves
import Derived.RangeFuncOwn
import Derived.OrdersIn
import Derived.TacticsIn
import Derived.RecoverIn
import Derived.WalkLawsBesides
import Derived.Lib.AppendZeros
import Derived.Laws.IdiomCopy
import Derived.Lib.Overlaps
import Derived.Lib.AppendZerosOnto
import Derived.Shelf.Strconv.Atoi
import Derived.Shelf.Strconv.Itoa0
import Derived.Shelf.Strconv.Itoa1
import Derived.Shelf.LaysM
import Derived.Shelf.Strconv.Itoa2
import Derived.Shelf.Strconv.Itoa3
import Derived.Shelf.Strconv.AtoiErrFast
import Derived.Shelf.Strconv.ParseIntEmpty
import Derived.Shelf.Strconv.AtoiFail
import Derived.Shelf.Strconv.Clone
import Derived.Shelf.Strconv.SyntaxError
import Derived.Shelf.LaysC
import Derived.Shelf.Strconv.ToError
import Derived.Shelf.Strconv.AtoiErr
import Derived.Shelf.Strconv.ErrVar
import Derived.Shelf.Strconv.Lower
import Derived.Shelf.Strconv.ParseUint10
import Derived.Shelf.Strconv.ParseUint10Empty
import Derived.Shelf.Strconv.ParseUint10Any
import Derived.Shelf.Strconv.ParseInt10
import Derived.Shelf.Strconv.AtoiLong
import Derived.Shelf.Strconv.AtoiInnerAll
import Derived.Shelf.Strconv.RangeError
import Derived.Shelf.Strconv.ToErrorRange
import Derived.Shelf.Strconv.AtoiAll
import Derived.Shelf.Strconv.ErrVarAll
import Derived.Shelf.Strconv.ParseUintEmpty
import Derived.Shelf.Strconv.ParseUint10b64
import Derived.Shelf.Strconv.ParseUint10b32
import Derived.Shelf.Strconv.ParseUint10b16
import Derived.Shelf.Strconv.ParseUint10b8
import Derived.Shelf.Strconv.ParseUint10At
import Derived.Shelf.Strconv.ParseInt10At64
import Derived.Shelf.Strconv.ParseInt10At32
import Derived.Shelf.Strconv.ParseInt10At16
import Derived.Shelf.Strconv.ParseInt10At8
import Derived.Shelf.Strconv.ParseInt10All
import Derived.Shelf.Strings.Prefix
import Derived.Shelf.Slices.Turned
import Derived.Test.YtjgekbmahhhokaaDoorRows
import Derived.Test.YtjgekbmahhhokaaDoorProg
namespace Go.Proofs.YtjgekbmahhhokaaDoor.V
open Go.RowKit
set_option linter.unusedVariables false
set_option linter.unusedSimpArgs false

inductive D where
 | v (x : Value)
 | list (sz : Nat) (cs : List D) (len : Nat)
 | iptr (cs : List D) (off : Nat)
 | agg (cs : List D)
 | tup (cs : List D)
 | clo (f : Fn) (cs : List D)
 | yld (l : Nat) (os : List (Nat × Obj))
 | junk
 deriving Inhabited

inductive Rep (w : World) (L : Nat → Prop) : D → Value → Prop
 | v (x : Value) : Rep w L (.v x) x
 | void (sz : Nat) (ad : Option Addr) (cap : Nat) : Rep w L (.list sz [] 0) (.slice ad 0 cap)
 | list (sz : Nat) (cs : List D) (len b o cap : Nat) (f : Nat → Value) (hl : cs.length = len * sz) (h1 : len ≤ cap) (h2 : cap ≤ maxLen) (hb : b < w.heap.size) (hL : ¬ L b)
   (hc : ∀ i, i < cs.length → w.cell? ⟨b, o + i, none⟩ = some (f i)) (hr : ∀ i (h : i < cs.length), Rep w L cs[i] (f i)) : Rep w L (.list sz cs len) (.slice (some ⟨b, o, none⟩) len cap)
 | iptr (cs : List D) (off b o : Nat) (f : Nat → Value) (hb : b < w.heap.size) (hL : ¬ L b)
   (hc : ∀ i, i < cs.length → w.cell? ⟨b, o + i, none⟩ = some (f i)) (hr : ∀ i (h : i < cs.length), Rep w L cs[i] (f i)) : Rep w L (.iptr cs off) (.pointer (some ⟨b, o + off, none⟩))
 | agg (cs : List D) (vs : List Value) (hl : vs.length = cs.length) (hr : ∀ i (h : i < cs.length) (h' : i < vs.length), Rep w L cs[i] vs[i]) : Rep w L (.agg cs) (.agg vs.toArray)
 | tup (cs : List D) (vs : List Value) (hl : vs.length = cs.length) (hr : ∀ i (h : i < cs.length) (h' : i < vs.length), Rep w L cs[i] vs[i]) : Rep w L (.tup cs) (.tuple vs.toArray)
 | clo (fn : Fn) (cs : List D) (vs : List Value) (hl : vs.length = cs.length) (hr : ∀ i (h : i < cs.length) (h' : i < vs.length), Rep w L cs[i] vs[i]) : Rep w L (.clo fn cs) (.func fn #[] vs.toArray)
 | yld (l : Nat) (os : List (Nat × Obj)) (h : ∀ z ∈ os, z.1 < w.heap.size ∧ ¬ L z.1 ∧ w.heap[z.1]? = some z.2) : Rep w L (.yld l os) (.func (.yield l) #[] #[])
 | junk (x : Value) : Rep w L .junk x

theorem Rep.nil {w : World} {L : Nat → Prop} (sz : Nat) : Rep w L (.list sz [] 0) (.slice none 0 0) := .void sz none 0

theorem lt_of_same {w w' : World} {b : Nat} (hb : b < w.heap.size) (h : w'.heap[b]? = w.heap[b]?) : b < w'.heap.size := by
 rcases Nat.lt_or_ge b w'.heap.size with h' | h'
 ·exact h'
 rw [Array.getElem?_eq_none h', Array.getElem?_eq_getElem hb] at h; cases h

theorem Rep.mono {w w' : World} {L L' : Nat → Prop} {d : D} {v : Value} (h : Rep w L d v) (H : ∀ b, b < w.heap.size → ¬ L b → w'.heap[b]? = w.heap[b]? ∧ ¬ L' b) : Rep w' L' d v := by
 induction h with
 | v x => exact .v x
 | void sz ad cap => exact .void sz ad cap
 | list sz cs len b o cap f hl h1 h2 hb hL hc hr ih =>
  have hh := H b hb hL
  exact .list sz cs len b o cap f hl h1 h2 (lt_of_same hb hh.1) hh.2 (fun i hi => (World.cell?_of_block (w := w) (a := ⟨b, o + i, none⟩) hh.1).trans (hc i hi)) ih
 | iptr cs off b o f hb hL hc hr ih =>
  have hh := H b hb hL
  exact .iptr cs off b o f (lt_of_same hb hh.1) hh.2 (fun i hi => (World.cell?_of_block (w := w) (a := ⟨b, o + i, none⟩) hh.1).trans (hc i hi)) ih
 | agg cs vs hl hr ih => exact .agg cs vs hl ih
 | tup cs vs hl hr ih => exact .tup cs vs hl ih
 | clo fn cs vs hl hr ih => exact .clo fn cs vs hl ih
 | yld l os h =>
  refine .yld l os fun z hz => ?_
  obtain ⟨h1, h2, h3⟩ := h z hz
  have hh := H z.1 h1 h2
  exact ⟨lt_of_same h1 hh.1, hh.2, hh.1.trans h3⟩
 | junk x => exact .junk x

structure Blk where
 b : Nat
 e : TypeId
 size : Nat
 cs : List D
 deriving Inhabited

def mapTag : TypeId := 1000003
def mapTag2 : TypeId := 1000004
def isMap (e : TypeId) : Bool := Nat.beq e mapTag || Nat.beq e mapTag2
def mapOb (cur : Array Value) : Obj := .map (cur.mapIdx fun i k => ⟨k, .agg #[], i⟩) cur.size
def bornOf : Value → Nat
 | .int _ n => n.toNat
 | _ => 0
def decE : List Value → List MapEntry
 | k :: v :: b :: r => ⟨k, v, bornOf b⟩ :: decE r
 | _ => []
def mapOb2 (cur : Array Value) : Obj := match cur.toList with
 | c :: r => .map (decE r).toArray (bornOf c)
 | [] => .map #[] 0
def ob (e : TypeId) (cur : Array Value) : Obj := bif isMap e then (bif Nat.beq e mapTag2 then mapOb2 cur else mapOb cur) else .cells cur e (0, 0)
theorem ob_cells {e : TypeId} (he : isMap e = false) (cur : Array Value) : ob e cur = .cells cur e (0, 0) := by rw [ob, he]; rfl
def BlkAt (w : World) (L : Nat → Prop) (B : Blk) : Prop :=
 B.b < w.heap.size ∧ ∃ cur : Array Value, w.heap[B.b]? = some (ob B.e cur) ∧ cur.size = B.size ∧ B.cs.length ≤ B.size ∧ ∀ i (h : i < B.cs.length), ∃ u, cur[i]? = some u ∧ Rep w L B.cs[i] u

def plainV : Value → Bool
 | .tuple _ => false
 | _ => true
def tabCell (w : World) (b i : Nat) : Value → Prop
 | .tuple vs => ∃ t fz, w.heap[b]? = some (.cells vs t fz)
 | v => w.cell? ⟨b, i, none⟩ = some v
theorem tabCell.cell {w : World} {b i : Nat} {v : Value} (h : tabCell w b i v) (hv : plainV v = true) : w.cell? ⟨b, i, none⟩ = some v := by
 cases v <;> first | exact h | cases hv
theorem tabCell.of {w : World} {b i : Nat} {v : Value} (h : w.cell? ⟨b, i, none⟩ = some v) (hv : plainV v = true) : tabCell w b i v := by
 cases v <;> first | exact h | cases hv
theorem tabCell.on {w w' : World} {b i : Nat} {v : Value} (hb : w'.heap[b]? = w.heap[b]?) (h : tabCell w b i v) : tabCell w' b i v := by
 by_cases hv : plainV v = true
 ·exact .of ((World.cell?_of_block (w := w) (a := ⟨b, i, none⟩) hb).trans (h.cell hv)) hv
 cases v <;> first | exact absurd rfl hv | (obtain ⟨t, fz, h⟩ := h; exact ⟨t, fz, hb.trans h⟩)
theorem tabCell.lt {w : World} {b i : Nat} {v : Value} (h : tabCell w b i v) : b < w.heap.size := by
 by_cases hv : plainV v = true
 ·exact World.block_lt_of_cell? w _ (h.cell hv)
 cases v <;> first | exact absurd rfl hv | (obtain ⟨t, fz, h⟩ := h; exact (Array.getElem?_eq_some_iff.1 h).1)
theorem plain_at {vs : List Value} (h : vs.all plainV = true) {i : Nat} {v : Value} (hi : vs[i]? = some v) : plainV v = true := List.all_eq_true.1 h v (List.mem_of_getElem? hi)

structure Ctx where
 X : Nat → Prop
 w0 : World
 S0 : List Nat
 G : List (Nat × List Value)
 df : List Deferred
 esc : Act → World → Prop

structure St where
 n : Nat
 env : List (Nat × D)
 S : List Blk

def look (t : Nat) : List (Nat × D) → D
 | [] => .junk
 | (i, d) :: r => bif Nat.beq i t then d else look t r

theorem look_cons (t i : Nat) (d : D) (l : List (Nat × D)) : look t ((i, d) :: l) = if i = t then d else look t l := by
 rw [look]
 by_cases e : i = t
 ·subst e; simp
 have : Nat.beq i t = false := by
  cases h : Nat.beq i t with
  | false => rfl
  | true => exact absurd (Nat.eq_of_beq_eq_true h) e
 rw [this, if_neg e]; rfl

def bks (S : List Blk) : List Nat := S.map (·.b)

def live (X : Nat → Prop) (S : List Blk) (b : Nat) : Prop := X b ∨ b ∈ bks S

structure Fr (w : World) (S : List Nat) (w' : World) (S' : List Nat) : Prop where
 os : w'.os = w.os
 tape : w'.tape = w.tape
 output : w'.output = w.output
 size : w.heap.size ≤ w'.heap.size
 block : ∀ b, b < w.heap.size → b ∉ S → w'.heap[b]? = w.heap[b]? ∧ b ∉ S'

theorem Fr.refl (w : World) (S : List Nat) : Fr w S w S := ⟨rfl, rfl, rfl, Nat.le_refl _, fun _ _ h => ⟨rfl, h⟩⟩

theorem Fr.trans {w1 w2 w3 : World} {S1 S2 S3 : List Nat} (h : Fr w1 S1 w2 S2) (k : Fr w2 S2 w3 S3) : Fr w1 S1 w3 S3 :=
 ⟨k.os.trans h.os, k.tape.trans h.tape, k.output.trans h.output, Nat.le_trans h.size k.size, fun b hb hn =>
  have h1 := h.block b hb hn
  have h2 := k.block b (Nat.lt_of_lt_of_le hb h.size) h1.2
  ⟨h2.1.trans h1.1, h2.2⟩⟩

structure Own (w : World) (L : Nat → Prop) (S : List Blk) : Prop where
 at_ : ∀ B ∈ S, BlkAt w L B
 apart : (bks S).Nodup

structure Sim (C : Ctx) (x : St) (a : Act) (w : World) : Prop where
 defers : a.defers = C.df
 size : a.tmps.size = x.n
 env : ∀ t, t < x.n → Rep w (live C.X x.S) (look t x.env) (a.tmps.getD t undef)
 own : Own w (live C.X x.S) x.S
 fr : Fr C.w0 C.S0 w (bks x.S)
 ex : ∀ b, C.X b → b < C.w0.heap.size ∧ b ∉ C.S0
 tab : ∀ g ∈ C.G, (g.1 < C.w0.heap.size ∧ g.1 ∉ C.S0 ∧ ¬ C.X g.1) ∧ ∀ i v, g.2[i]? = some v → tabCell C.w0 g.1 i v

def St.put (x : St) (t : Nat) (d : D) : St := ⟨x.n, (t, d) :: x.env, x.S⟩

theorem Sim.put {C : Ctx} {x : St} {a : Act} {w : World} (h : Sim C x a w) {t : Nat} {d : D} {v : Value} (hd : Rep w (live C.X x.S) d v) : Sim C (x.put t d) (a.put (some t) v) w := by
 refine ⟨h.defers, by simp [Act.put, St.put, h.size], fun i hi => ?_, h.own, h.fr, h.ex, h.tab⟩
 have hs := h.size
 simp only [St.put, look_cons, Act.put] at hi ⊢
 by_cases e : t = i
 ·subst e
  rw [if_pos rfl]
  have : (a.tmps.setIfInBounds t v).getD t undef = v := by
   simp [Array.getElem?_setIfInBounds, hs, hi]
  rw [this]; exact hd
 rw [if_neg e]
 have : (a.tmps.setIfInBounds t v).getD i undef = a.tmps.getD i undef := by
  simp [Array.getElem?_setIfInBounds_ne e]
 rw [this]; exact h.env i hi

def Wk (x y : St) : Prop := ∀ C a w, Sim C x a w → Sim C y a w

theorem Wk.refl (x : St) : Wk x x := fun _ _ _ h => h
theorem Wk.trans {x y z : St} (h : Wk x y) (k : Wk y z) : Wk x z := fun C a w s => k C a w (h C a w s)

theorem Own.sub {w : World} {X : Nat → Prop} {S S' : List Blk} (h : Own w (live X S) S) (hs : S'.Sublist S) : Own w (live X S') S' :=
 have hsub : (bks S').Sublist (bks S) := List.Sublist.map _ hs
 ⟨fun B hB => by
  obtain ⟨h0, cur, h1, h2, h3, h4⟩ := h.at_ B (hs.subset hB)
  refine ⟨h0, cur, h1, h2, h3, fun i hi => ?_⟩
  obtain ⟨u, hu, hr⟩ := h4 i hi
  exact ⟨u, hu, hr.mono fun b _ hn => ⟨rfl, fun hl => hn (hl.imp id fun q => hsub.subset q)⟩⟩, h.apart.sublist hsub⟩

theorem Wk.drop (n : Nat) (l : List (Nat × D)) (S S' : List Blk) (hs : S'.Sublist S) : Wk ⟨n, l, S⟩ ⟨n, l, S'⟩ := fun C a w h =>
 have hsub : (bks S').Sublist (bks S) := List.Sublist.map _ hs
 ⟨h.defers, h.size, fun t ht => (h.env t ht).mono fun b _ hn => ⟨rfl, fun hl => hn (hl.imp id fun q => hsub.subset q)⟩, h.own.sub hs,
  ⟨h.fr.os, h.fr.tape, h.fr.output, h.fr.size, fun b hb hn => ⟨(h.fr.block b hb hn).1, fun q => (h.fr.block b hb hn).2 (hsub.subset q)⟩⟩, h.ex, h.tab⟩

theorem Wk.ars {n : Nat} {l l' : List (Nat × D)} {S : List Blk} (H : ∀ (C : Ctx) (a : Act) (w : World), Sim C ⟨n, l, S⟩ a w → ∀ t, t < n → ∀ v, Rep w (live C.X S) (look t l) v → Rep w (live C.X S) (look t l') v) : Wk ⟨n, l, S⟩ ⟨n, l', S⟩ := fun C a w h =>
 ⟨h.defers, h.size, fun t ht => H C a w h t ht _ (h.env t ht), h.own, h.fr, h.ex, h.tab⟩

theorem Rep.v_eq {w : World} {L : Nat → Prop} {x y : Value} (h : Rep w L (.v x) y) : y = x := by cases h; rfl

def opd (x : St) : Operand → D
 | .tmp t => bif Nat.blt t x.n then look t x.env else .junk
 | .const v => .v v
 | .global g => .v (.pointer (some ⟨g, 0, none⟩))
 | .func f => .clo (.func f) []

theorem Sim.eval {C : Ctx} {x : St} {a : Act} {w : World} (h : Sim C x a w) (o : Operand) : Rep w (live C.X x.S) (opd x o) (a.eval o) := by
 cases o with
 | tmp t =>
  simp only [opd, Act.eval]
  cases ht : Nat.blt t x.n with
  | true => exact h.env t (Nat.le_of_ble_eq_true ht)
  | false => exact .junk _
 | const v => exact .v _
 | global g => exact .v _
 | func f => exact .clo (.func f) [] [] rfl (fun i h => by simp at h)

theorem Sim.flat {C : Ctx} {x : St} {a : Act} {w : World} (h : Sim C x a w) {o : Operand} {u : Value} (ho : opd x o = .v u) : a.eval o = u := by
 have := h.eval o
 rw [ho] at this
 exact this.v_eq

theorem Sim.blk {C : Ctx} {x : St} {a : Act} {w : World} (h : Sim C x a w) {k : Nat} {B : Blk} (hk : x.S[k]? = some B) : BlkAt w (live C.X x.S) B := h.own.at_ B (List.mem_of_getElem? hk)

theorem live_blk {X : Nat → Prop} {S : List Blk} {k : Nat} {B : Blk} (hk : S[k]? = some B) : live X S B.b := .inr (List.mem_map.2 ⟨B, List.mem_of_getElem? hk, rfl⟩)

theorem Sim.tabAt {C : Ctx} {x : St} {a : Act} {w : World} (h : Sim C x a w) {g : Nat × List Value} (hg : g ∈ C.G) {i : Nat} {v : Value} (hi : g.2[i]? = some v) : tabCell w g.1 i v := by
 obtain ⟨⟨h1, h2, h3⟩, h4⟩ := h.tab g hg
 exact (h4 i v hi).on (h.fr.block g.1 h1 h2).1

end Go.Proofs.YtjgekbmahhhokaaDoor.V

namespace Go.Proofs.YtjgekbmahhhokaaDoor.V
open Go.RowKit
set_option linter.unusedVariables false
set_option linter.unusedSimpArgs false

inductive Rd where
 | none
 | blk (k : Nat)
 | imm

def Same (C : Ctx) (x : St) (w w' : World) : Rd → Prop
 | .none => True
 | .blk k => ∀ B, x.S[k]? = some B → w'.heap[B.b]? = w.heap[B.b]?
 | .imm => ∀ b, b < w.heap.size → ¬ live C.X x.S b → w'.heap[b]? = w.heap[b]?

theorem Same.self (C : Ctx) (x : St) (w : World) : ∀ k, Same C x w w k
 | .none => trivial
 | .blk _ => fun _ _ => rfl
 | .imm => fun _ _ _ => rfl

def Still (P : Program) (G : List (Nat × List Value)) (x : St) (o : Oper) (k : Rd) (d : D) : Prop :=
 ∀ C a w, C.G = G → Sim C x a w → ∃ v, Rep w (live C.X x.S) d v ∧ ∀ w', Same C x w w' k → (execOp a.eval o).run P w' = .ok (.value v) w'

variable {P : Program} {G : List (Nat × List Value)} {x : St} {o : Oper}

theorem still_move {y : Operand} (ho : o.op = .move y) : Still P G x o .none (opd x y) := fun C a w _ h =>
 ⟨a.eval y, h.eval y, fun w' _ => by unfold execOp; simp [ho]⟩

theorem still_assign {y : Operand} (ho : o.op = .assign y) : Still P G x o .none (opd x y) := fun C a w _ h =>
 ⟨a.eval y, h.eval y, fun w' _ => by unfold execOp; simp [ho]⟩

theorem still_pick {c y z : Operand} {t : Bool} (ho : o.op = .pick c y z) (hc : opd x c = .v (.bool t)) : Still P G x o .none (if t then opd x y else opd x z) := fun C a w _ h => by
 refine ⟨if t then a.eval y else a.eval z, by cases t <;> simp [h.eval], fun w' _ => ?_⟩
 unfold execOp
 simp only [ho, h.flat hc, asBool]
 cases t <;> simp

def BinOK (P : Program) (op : BinOp) (t : TypeId) (u u' r : Value) : Prop := ∀ (y z : Operand) w, (do eqGuard op t y z u u'; Go.binOp op t u u' : Sem Value).run P w = .ok r w

theorem still_bin {op : BinOp} {t t' : TypeId} {y z : Operand} {u u' r : Value} (ho : o.op = .binOp op t y z t') (hy : opd x y = .v u) (hz : opd x z = .v u') (hb : BinOK P op t u u' r) : Still P G x o .none (.v r) := fun C a w _ h =>
 ⟨r, .v _, fun w' _ => by
  unfold execOp
  have := hb y z w'
  simp only [Sem.run_bind] at this
  simp only [ho, h.flat hy, h.flat hz, Sem.run_bind, this, Result.andThen_ok, Sem.run_pure]⟩

theorem still_un {op : UnOp} {t : TypeId} {y : Operand} {u r : Value} (ho : o.op = .unOp op t y) (hy : opd x y = .v u) (hb : ∀ w, (Op.unary op u).run P w = .ok r w) : Still P G x o .none (.v r) := fun C a w _ h =>
 ⟨r, .v _, fun w' _ => by
  unfold execOp
  simp only [ho, h.flat hy, Sem.run_bind, hb w', Result.andThen_ok, Sem.run_pure]⟩

theorem still_conv {s t : TypeId} {y : Operand} {u r : Value} (ho : o.op = .convert s t y) (hy : opd x y = .v u) (hb : ∀ w, (Go.convert s t u).run P w = .ok r w) : Still P G x o .none (.v r) := fun C a w _ h =>
 ⟨r, .v _, fun w' _ => by
  unfold execOp
  simp only [ho, h.flat hy, Sem.run_bind, hb w', Result.andThen_ok, Sem.run_pure]⟩

/-! ### Fields and places -/

theorem run_field_ptr {s : TypeId} {i n off b o' : Nat} {f : Field} {fs : Array Field} {w : World} (hu : ∀ w, (underlying s).run P w = .ok (.struct fs) w) (hf : fs[i]? = some f) (hn : ∀ w, (sizeOf f.type).run P w = .ok (n + 1) w) (hoff : f.offset = off) :
  (Instr.fieldAt s (.pointer (some ⟨b, o', none⟩)) i).run P w = .ok (.pointer (some ⟨b, o' + off, none⟩)) w := by
 subst hoff
 simp [Instr.fieldAt, hu, hf, Instr.sureAddr, fieldPlace, hn, Addr.add_mid]

theorem still_field {s : TypeId} {i n off b o' : Nat} {f : Field} {fs : Array Field} {y : Operand} (ho : o.op = .fieldAddr s y i) (hy : opd x y = .v (.pointer (some ⟨b, o', none⟩)))
  (hu : ∀ w, (underlying s).run P w = .ok (.struct fs) w) (hf : fs[i]? = some f) (hn : ∀ w, (sizeOf f.type).run P w = .ok (n + 1) w) (hoff : f.offset = off) : Still P G x o .none (.v (.pointer (some ⟨b, o' + off, none⟩))) := fun C a w _ h =>
 ⟨_, .v _, fun w' _ => by
  unfold execOp
  simp only [ho, h.flat hy, Sem.run_bind, run_field_ptr hu hf hn hoff, Result.andThen_ok, Sem.run_pure]⟩

theorem still_ifield {s : TypeId} {i n off o' : Nat} {cs : List D} {f : Field} {fs : Array Field} {y : Operand} (ho : o.op = .fieldAddr s y i) (hy : opd x y = .iptr cs o')
  (hu : ∀ w, (underlying s).run P w = .ok (.struct fs) w) (hf : fs[i]? = some f) (hn : ∀ w, (sizeOf f.type).run P w = .ok (n + 1) w) (hoff : f.offset = off) : Still P G x o .none (.iptr cs (o' + off)) := fun C a w _ h => by
 have hr := h.eval y
 rw [hy] at hr
 generalize hg : a.eval y = u at hr
 cases hr with
 | iptr _ _ b o'' g hb hL hc hr =>
  refine ⟨_, .iptr cs (o' + off) b o'' g hb hL hc hr, fun w' _ => ?_⟩
  unfold execOp
  simp only [ho, hg, Sem.run_bind, run_field_ptr hu hf hn hoff, Result.andThen_ok, Sem.run_pure, Nat.add_assoc]

theorem still_extract {i : Nat} {cs : List D} {d : D} {y : Operand} (ho : o.op = .extract y i) (hy : opd x y = .tup cs) (hd : cs[i]? = some d) : Still P G x o .none d := fun C a w _ h => by
 have hr := h.eval y
 rw [hy] at hr
 generalize hg : a.eval y = u at hr
 cases hr with
 | tup _ vs hl hr =>
  obtain ⟨hlt, he⟩ := List.getElem?_eq_some_iff.1 hd
  refine ⟨vs[i]'(by omega), ?_, fun w' _ => ?_⟩
  ·rw [← he]; exact hr _ hlt (by omega)
  unfold execOp
  simp [ho, hg, Instr.extract, List.getElem?_eq_getElem (show i < vs.length by omega)]

/-! ### Loads -/

theorem run_load1 {t : TypeId} {b o' : Nat} {v : Value} {w : World} (ha : ∀ w, (isAgg t).run P w = .ok false w) (hc : w.cell? ⟨b, o', none⟩ = some v) :
  (Instr.loadAt t (.pointer (some ⟨b, o', none⟩))).run P w = .ok v w := by
 simp [Instr.loadAt, Instr.sureAddr, loadVar, ha, hc]

theorem run_loadN {t : TypeId} {b o' n : Nat} {vs : List Value} {w : World} (ha : ∀ w, (isAgg t).run P w = .ok true w) (hn : ∀ w, (sizeOf t).run P w = .ok n w) (hl : vs.length = n)
  (hc : ∀ j (h : j < vs.length), w.cell? ⟨b, o' + j, none⟩ = some vs[j]) :
  (Instr.loadAt t (.pointer (some ⟨b, o', none⟩))).run P w = .ok (.agg vs.toArray) w := by
 have := run_loadCells_list (P := P) w ⟨b, o', none⟩ vs (fun j v hv => by
  obtain ⟨h1, h2⟩ := List.getElem?_eq_some_iff.1 hv
  rw [Addr.add_mid, hc j h1, h2])
 rw [hl] at this
 simp [Instr.loadAt, Instr.sureAddr, loadVar, ha, hn, this]

theorem cell_blk {w : World} {b i : Nat} {cur : Array Value} {e : TypeId} {u : Value} (hh : w.heap[b]? = some (.cells cur e (0, 0))) (hu : cur[i]? = some u) : w.cell? ⟨b, i, none⟩ = some u := by
 unfold World.cell?
 simp [hh, hu]

theorem still_load {t : TypeId} {k b o' : Nat} {B : Blk} {d : D} {y : Operand} (ho : o.op = .load t y) (hy : opd x y = .v (.pointer (some ⟨b, o', none⟩)))
  (hk : x.S[k]? = some B) (hb : B.b = b) (ha : ∀ w, (isAgg t).run P w = .ok false w) (hd : B.cs[o']? = some d) (hne : isMap B.e = false := by rfl) : Still P G x o (.blk k) d := fun C a w _ h => by
 obtain ⟨_, cur, h1, h2, h3, h4⟩ := h.blk hk
 rw [ob_cells hne] at h1
 obtain ⟨hlt, he⟩ := List.getElem?_eq_some_iff.1 hd
 obtain ⟨u, hu, hr⟩ := h4 o' hlt
 refine ⟨u, by rw [← he]; exact hr, fun w' hw => ?_⟩
 have hh : w'.heap[B.b]? = _ := (hw B hk).trans h1
 unfold execOp
 subst hb
 simp only [ho, h.flat hy, Sem.run_bind, run_load1 ha (cell_blk hh hu), Result.andThen_ok, Sem.run_pure]

theorem still_loads {t : TypeId} {k b o' n : Nat} {B : Blk} {ds : List D} {y : Operand} (ho : o.op = .load t y) (hy : opd x y = .v (.pointer (some ⟨b, o', none⟩)))
  (hk : x.S[k]? = some B) (hb : B.b = b) (ha : ∀ w, (isAgg t).run P w = .ok true w) (hn : ∀ w, (sizeOf t).run P w = .ok n w) (hl : ds.length = n) (hd : (B.cs.drop o').take n = ds) (hne : isMap B.e = false := by rfl) : Still P G x o (.blk k) (.agg ds) := fun C a w _ h => by
 obtain ⟨_, cur, h1, h2, h3, h4⟩ := h.blk hk
 rw [ob_cells hne] at h1
 have hlen : o' + n ≤ B.cs.length ∨ n = 0 := by
  have := congrArg List.length hd
  simp only [List.length_take, List.length_drop] at this
  omega
 have hget : ∀ j, j < n → ∃ u, cur[o' + j]? = some u ∧ ∀ (h : j < ds.length), Rep w (live C.X x.S) ds[j] u := fun j hj => by
  obtain ⟨u, hu, hr⟩ := h4 (o' + j) (by omega)
  refine ⟨u, hu, fun h => ?_⟩
  subst hd
  simpa using hr
 refine ⟨.agg ((List.range n).map fun j => cur.getD (o' + j) undef).toArray, .agg _ _ (by simp [hl]) (fun i q1 q2 => ?_), fun w' hw => ?_⟩
 ·obtain ⟨u, hu, hr⟩ := hget i (by omega)
  simp only [List.getElem_map, List.getElem_range, Array.getD_eq_getD_getElem?, hu, Option.getD_some]
  exact hr q1
 have hh : w'.heap[B.b]? = _ := (hw B hk).trans h1
 unfold execOp
 subst hb
 have := run_loadN (P := P) (w := w') (b := B.b) (o' := o') (vs := (List.range n).map fun j => cur.getD (o' + j) undef) ha hn (by simp) (fun j hj => by
  simp only [List.length_map, List.length_range] at hj
  obtain ⟨u, hu, _⟩ := hget j hj
  simp only [List.getElem_map, List.getElem_range, Array.getD_eq_getD_getElem?, hu, Option.getD_some]
  exact cell_blk hh hu)
 simp only [ho, h.flat hy, Sem.run_bind, this, Result.andThen_ok, Sem.run_pure]

theorem still_iload {t : TypeId} {o' : Nat} {cs : List D} {d : D} {y : Operand} (ho : o.op = .load t y) (hy : opd x y = .iptr cs o')
  (ha : ∀ w, (isAgg t).run P w = .ok false w) (hd : cs[o']? = some d) : Still P G x o .imm d := fun C a w _ h => by
 have hr := h.eval y
 rw [hy] at hr
 generalize hg : a.eval y = u at hr
 cases hr with
 | iptr _ _ b o'' g hb hL hc hr =>
  obtain ⟨hlt, he⟩ := List.getElem?_eq_some_iff.1 hd
  refine ⟨g o', by rw [← he]; exact hr o' hlt, fun w' hw => ?_⟩
  have hh := World.cell?_of_block (w := w) (a := ⟨b, o'' + o', none⟩) (hw b hb hL)
  unfold execOp
  simp only [ho, hg, Sem.run_bind, run_load1 ha (hh.trans (hc o' hlt)), Result.andThen_ok, Sem.run_pure]

theorem still_iloads {t : TypeId} {o' n : Nat} {cs ds : List D} {y : Operand} (ho : o.op = .load t y) (hy : opd x y = .iptr cs o')
  (ha : ∀ w, (isAgg t).run P w = .ok true w) (hn : ∀ w, (sizeOf t).run P w = .ok n w) (hl : ds.length = n) (hd : (cs.drop o').take n = ds) : Still P G x o .imm (.agg ds) := fun C a w _ h => by
 have hr := h.eval y
 rw [hy] at hr
 generalize hg : a.eval y = u at hr
 cases hr with
 | iptr _ _ b o'' g hb hL hc hr =>
  have hlen : o' + n ≤ cs.length ∨ n = 0 := by
   have := congrArg List.length hd
   simp only [List.length_take, List.length_drop] at this
   omega
  refine ⟨.agg ((List.range n).map fun j => g (o' + j)).toArray, .agg _ _ (by simp [hl]) (fun i q1 q2 => ?_), fun w' hw => ?_⟩
  ·simp only [List.getElem_map, List.getElem_range]
   have := hr (o' + i) (by omega)
   subst hd
   simpa using this
  have := run_loadN (P := P) (w := w') (b := b) (o' := o'' + o') (vs := (List.range n).map fun j => g (o' + j)) ha hn (by simp) (fun j hj => by
   simp only [List.length_map, List.length_range] at hj
   simp only [List.getElem_map, List.getElem_range]
   have hh := World.cell?_of_block (w := w) (a := ⟨b, o'' + o' + j, none⟩) (hw b hb hL)
   rw [hh, Nat.add_assoc]
   exact hc _ (by omega))
  unfold execOp
  simp only [ho, hg, Sem.run_bind, this, Result.andThen_ok, Sem.run_pure]

end Go.Proofs.YtjgekbmahhhokaaDoor.V

namespace Go.Proofs.YtjgekbmahhhokaaDoor.V
open Go.RowKit
set_option linter.unusedVariables false
set_option linter.unusedSimpArgs false

variable {P : Program} {G : List (Nat × List Value)} {x : St} {o : Oper}

/-! ### Places in lists -/

theorem run_idx {t e : TypeId} {b o' len cap sz j : Nat} {k : IntKind} {i : Int} {w : World} (hu : ∀ w, (underlying t).run P w = .ok (.slice e) w) (hs : ∀ w, (sizeOf e).run P w = .ok sz w) (hi : i = j) (hj : j < len) :
  (Instr.indexAt t (.slice (some ⟨b, o', none⟩) len cap) (.int k i)).run P w = .ok (.pointer (some ⟨b, o' + j * sz, none⟩)) w := by
 subst hi
 simp [Instr.indexAt, asIntOf, hu, hs, hj, Addr.add_mid]

theorem still_idx {t e : TypeId} {len sz j : Nat} {cs : List D} {k : IntKind} {i : Int} {y z : Operand} (ho : o.op = .indexAddr t y z) (hy : opd x y = .list sz cs len) (hz : opd x z = .v (.int k i))
  (hu : ∀ w, (underlying t).run P w = .ok (.slice e) w) (hs : ∀ w, (sizeOf e).run P w = .ok sz w) (hi : i = j) (hj : j < len) : Still P G x o .none (.iptr cs (j * sz)) := fun C a w _ h => by
 have hr := h.eval y
 rw [hy] at hr
 generalize hg : a.eval y = u at hr
 cases hr with
 | void => omega
 | list _ _ _ b o'' cap g hl h1 h2 hb hL hc hr =>
  refine ⟨_, .iptr cs (j * sz) b o'' g hb hL hc hr, fun w' _ => ?_⟩
  unfold execOp
  simp only [ho, hg, h.flat hz, Sem.run_bind, run_idx hu hs hi hj, Result.andThen_ok, Sem.run_pure]

theorem still_ridx {t e : TypeId} {b o' len cap sz j : Nat} {k : IntKind} {i : Int} {y z : Operand} (ho : o.op = .indexAddr t y z) (hy : opd x y = .v (.slice (some ⟨b, o', none⟩) len cap)) (hz : opd x z = .v (.int k i))
  (hu : ∀ w, (underlying t).run P w = .ok (.slice e) w) (hs : ∀ w, (sizeOf e).run P w = .ok sz w) (hi : i = j) (hj : j < len) : Still P G x o .none (.v (.pointer (some ⟨b, o' + j * sz, none⟩))) := fun C a w _ h =>
 ⟨_, .v _, fun w' _ => by
  unfold execOp
  simp only [ho, h.flat hy, h.flat hz, Sem.run_bind, run_idx hu hs hi hj, Result.andThen_ok, Sem.run_pure]⟩

theorem still_sidx {t : TypeId} {s : ByteArray} {c : UInt8} {j : Nat} {k : IntKind} {i : Int} {y z : Operand} (ho : o.op = .index t y z) (hy : opd x y = .v (.string s)) (hz : opd x z = .v (.int k i))
  (hu : ∀ w, (underlying t).run P w = .ok .string w) (hi : i = j) (hj : s[j]? = some c) : Still P G x o .none (.v (.int .u8 c.toNat)) := fun C a w _ h =>
 ⟨_, .v _, fun w' _ => by
  subst hi
  unfold execOp
  simp [ho, h.flat hy, h.flat hz, Instr.index, asIntOf, hu, hj]⟩

theorem still_vidx {t e : TypeId} {len sz j : Nat} {cs : List D} {d : D} {k : IntKind} {i : Int} {y z : Operand} (ho : o.op = .index t y z) (hy : opd x y = .agg cs) (hz : opd x z = .v (.int k i))
  (hu : ∀ w, (underlying t).run P w = .ok (.array len e) w) (hs : ∀ w, (sizeOf e).run P w = .ok sz w) (ha : ∀ w, (isAgg e).run P w = .ok false w) (hi : i = j) (hj : j < len) (hd : cs[j * sz]? = some d) : Still P G x o .none d := fun C a w _ h => by
 have hr := h.eval y
 rw [hy] at hr
 generalize hg : a.eval y = u at hr
 subst hi
 cases hr with
 | agg _ vs hl hr =>
  obtain ⟨hlt, he⟩ := List.getElem?_eq_some_iff.1 hd
  refine ⟨vs[j * sz]'(by omega), ?_, fun w' _ => ?_⟩
  ·rw [← he]; exact hr _ hlt (by omega)
  unfold execOp
  simp [ho, hg, h.flat hz, Instr.index, asIntOf, hu, hj, part, ha, hs, List.getElem?_eq_getElem (show j * sz < vs.length by omega)]

/-! ### Slices -/

def bound (x : St) (y : Option Operand) (n : Nat) (dflt : Nat) : Prop :=
 match y with
 | some y => ∃ (k : IntKind) (i : Int), opd x y = .v (.int k i) ∧ i = n
 | none => n = dflt

theorem bound_eval {C : Ctx} {a : Act} {w : World} (h : Sim C x a w) {y : Option Operand} {n dflt : Nat} (hb : bound x y n dflt) : (∃ k, y.map a.eval = some (.int k n)) ∨ (y.map a.eval = none ∧ n = dflt) := by
 cases y with
 | none => exact .inr ⟨rfl, hb⟩
 | some y =>
  obtain ⟨k, i, h1, h2⟩ := hb
  exact .inl ⟨k, by rw [Option.map_some, h.flat h1, h2]⟩

theorem run_sbound {k : IntKind} {n m : Nat} {code : BoundsCode} {w : World} (h : n ≤ m) : (Instr.sliceBound (.int k n) m code).run P w = .ok n w := by
 unfold Instr.sliceBound
 simp [asIntOf, h]

theorem run_sbounds {il : Bool} {len cap l h : Nat} {lo hi : Option Value} {w : World} (hlo : (∃ k, lo = some (.int k l)) ∨ (lo = none ∧ l = 0)) (hhi : (∃ k, hi = some (.int k h)) ∨ (hi = none ∧ h = len)) (h1 : l ≤ h) (h2 : h ≤ cap) :
  (Instr.sliceBounds il len cap lo hi none).run P w = .ok (l, h, cap) w := by
 unfold Instr.sliceBounds
 rcases hlo with ⟨k, rfl⟩ | ⟨rfl, rfl⟩ <;> rcases hhi with ⟨k', rfl⟩ | ⟨rfl, rfl⟩ <;> simp [run_sbound, h1, h2]

theorem still_slice {t e : TypeId} {len sz l h' : Nat} {cs : List D} {y : Operand} {lo hi : Option Operand} (ho : o.op = .slice t y lo hi none) (hy : opd x y = .list sz cs len) (hlo : bound x lo l 0) (hhi : bound x hi h' len)
  (hu : ∀ w, (underlying t).run P w = .ok (.slice e) w) (hs : ∀ w, (sizeOf e).run P w = .ok sz w) (h1 : l ≤ h') (h2 : h' ≤ len) : Still P G x o .none (.list sz ((cs.drop (l * sz)).take ((h' - l) * sz)) (h' - l)) := fun C a w _ h => by
 have hr := h.eval y
 rw [hy] at hr
 generalize hg : a.eval y = u at hr
 have b1 := bound_eval h hlo
 have b2 := bound_eval h hhi
 cases hr with
 | void _ ad cap =>
  have e1 : l = 0 := by omega
  have e2 : h' = 0 := by omega
  subst e1 e2
  refine ⟨.slice (if cap = 0 then ad else ad.map (·.add (0 * sz))) 0 cap, by simpa using Rep.void sz _ _, fun w' _ => ?_⟩
  unfold execOp
  simp [ho, hg, Instr.sliceAt, Instr.slice, hu, run_sbounds b1 b2 (Nat.le_refl _) (Nat.zero_le _), hs]
 | list _ _ _ b o'' cap g hl q1 q2 hb hL hc hr =>
  have hlen : ((cs.drop (l * sz)).take ((h' - l) * sz)).length = (h' - l) * sz := by
   rw [List.length_take, List.length_drop, hl, ← Nat.sub_mul]
   exact Nat.min_eq_left (Nat.mul_le_mul_right _ (by omega))
  have hmul : ∀ i, i < (h' - l) * sz → l * sz + i < cs.length := fun i hi => by
   rw [hl]
   have : l * sz + (h' - l) * sz ≤ len * sz := by rw [← Nat.add_mul]; exact Nat.mul_le_mul_right _ (by omega)
   omega
  by_cases hcap : cap = l
  ·have e2 : h' = l := by omega
   refine ⟨.slice (some ⟨b, o'', none⟩) (h' - l) (cap - l), ?_, fun w' _ => ?_⟩
   ·refine .list sz _ _ b o'' _ g hlen (by omega) (by omega) hb hL (fun i hi => ?_) (fun i hi => ?_) <;> (rw [hlen, e2] at hi; simp at hi)
   have b3 := fun w => run_sbounds (P := P) (il := true) (w := w) b1 b2 h1 (Nat.le_trans h2 q1)
   unfold execOp
   simp only [ho, hg, Instr.sliceAt, Instr.slice, hu, Sem.run_bind, Result.andThen_ok, Option.map_none, b3, hs, Sem.run_pure, if_pos hcap]
  refine ⟨.slice (some ⟨b, o'' + l * sz, none⟩) (h' - l) (cap - l), ?_, fun w' _ => ?_⟩
  ·refine .list sz _ _ b (o'' + l * sz) _ (fun i => g (l * sz + i)) hlen (by omega) (by omega) hb hL (fun i hi => ?_) (fun i hi => ?_)
   ·rw [Nat.add_assoc]; exact hc _ (hmul i (by rw [hlen] at hi; exact hi))
   simp only [List.getElem_take, List.getElem_drop]
   exact hr _ _
  have b3 := fun w => run_sbounds (P := P) (il := true) (w := w) b1 b2 h1 (Nat.le_trans h2 q1)
  unfold execOp
  simp only [ho, hg, Instr.sliceAt, Instr.slice, hu, Sem.run_bind, Result.andThen_ok, Option.map_none, b3, hs, Sem.run_pure, if_neg hcap, Option.map_some, Addr.add_mid]

theorem still_rslice {t e : TypeId} {b o' len cap sz h' : Nat} {y : Operand} {lo hi : Option Operand} (ho : o.op = .slice t y lo hi none) (hy : opd x y = .v (.slice (some ⟨b, o', none⟩) len cap)) (hlo : bound x lo 0 0) (hhi : bound x hi h' len)
  (hu : ∀ w, (underlying t).run P w = .ok (.slice e) w) (hs : ∀ w, (sizeOf e).run P w = .ok sz w) (h2 : h' ≤ cap) : Still P G x o .none (.v (.slice (some ⟨b, o', none⟩) h' cap)) := fun C a w _ h =>
 ⟨_, .v _, fun w' _ => by
  have b1 := bound_eval h hlo
  have b2 := bound_eval h hhi
  unfold execOp
  simp [ho, h.flat hy, Instr.sliceAt, Instr.slice, hu, run_sbounds b1 b2 (Nat.zero_le _) h2, hs, Addr.add_mid]⟩

theorem still_sslice {t : TypeId} {s : ByteArray} {l h' : Nat} {y : Operand} {lo hi : Option Operand} (ho : o.op = .slice t y lo hi none) (hy : opd x y = .v (.string s)) (hlo : bound x lo l 0) (hhi : bound x hi h' s.size)
  (hu : ∀ w, (underlying t).run P w = .ok .string w) (h1 : l ≤ h') (h2 : h' ≤ s.size) : Still P G x o .none (.v (.string (s.extract l h'))) := fun C a w _ h =>
 ⟨_, .v _, fun w' _ => by
  have b1 := bound_eval h hlo
  have b2 := bound_eval h hhi
  unfold execOp
  simp [ho, h.flat hy, Instr.sliceAt, Instr.slice, hu, run_sbounds b1 b2 h1 h2]⟩

/-! ### len, cap, min, max -/

theorem still_len {t : TypeId} {sz len : Nat} {cs : List D} {y : Operand} {ts : Array TypeId} (ho : o.op = .call { callee := .builtin .len, args := #[y], argTypes := ts }) (ht : ts = #[t]) (hy : opd x y = .list sz cs len)
  {e : TypeId} (hu : ∀ w, (underlying t).run P w = .ok (.slice e) w) : Still P G x o .none (.v (.int .i64 len)) := fun C a w _ h => by
 have hr := h.eval y
 rw [hy] at hr
 generalize hg : a.eval y = u at hr
 subst ht
 refine ⟨_, .v _, fun w' _ => ?_⟩
 cases hr <;> (unfold execOp; simp [ho, hg, resolve, invoke, builtin, Builtin.len_, hu, goInt])

theorem still_rlen {t : TypeId} {ad : Option Addr} {len cap : Nat} {y : Operand} {ts : Array TypeId} (ho : o.op = .call { callee := .builtin .len, args := #[y], argTypes := ts }) (ht : ts = #[t]) (hy : opd x y = .v (.slice ad len cap))
  {e : TypeId} (hu : ∀ w, (underlying t).run P w = .ok (.slice e) w) : Still P G x o .none (.v (.int .i64 len)) := fun C a w _ h => by
 subst ht
 refine ⟨_, .v _, fun w' _ => ?_⟩
 unfold execOp; simp [ho, h.flat hy, resolve, invoke, builtin, Builtin.len_, hu, goInt]

theorem still_slen {t : TypeId} {s : ByteArray} {y : Operand} {ts : Array TypeId} (ho : o.op = .call { callee := .builtin .len, args := #[y], argTypes := ts }) (ht : ts = #[t]) (hy : opd x y = .v (.string s))
  (hu : ∀ w, (underlying t).run P w = .ok .string w) : Still P G x o .none (.v (.int .i64 s.size)) := fun C a w _ h => by
 subst ht
 refine ⟨_, .v _, fun w' _ => ?_⟩
 unfold execOp; simp [ho, h.flat hy, resolve, invoke, builtin, Builtin.len_, hu, goInt]

theorem still_minmax {b : Builtin} {u u' r : Value} {y z : Operand} {ts : Array TypeId} (ho : o.op = .call { callee := .builtin b, args := #[y, z], argTypes := ts }) (hy : opd x y = .v u) (hz : opd x z = .v u')
  (hb : ∀ cs w, (Go.builtin b ts o.type cs #[u, u']).run P w = .ok (.value r) w) : Still P G x o .none (.v r) := fun C a w _ h =>
 ⟨_, .v _, fun w' _ => by
  unfold execOp; simp [ho, h.flat hy, h.flat hz, resolve, invoke, hb]⟩

theorem still_func {fn : Fn} {caps : Array Operand} {ds : List D} (ho : o.op = .makeFunc fn #[] caps) (hd : caps.toList.map (opd x) = ds) : Still P G x o .none (.clo fn ds) := fun C a w _ h => by
 subst hd
 refine ⟨.func fn #[] (caps.toList.map a.eval).toArray, .clo _ _ _ (by simp) (fun i q1 q2 => ?_), fun w' _ => ?_⟩
 ·simp only [List.getElem_map]; exact h.eval _
 unfold execOp
 simp [ho, Instr.makeFunc]
 rw [← Array.toList_map, Array.toArray_toList]

/-! ### Operations that make or write a block -/

def Chg (W : List Nat) (w w' : World) : Prop := w.heap.size ≤ w'.heap.size ∧ ∀ b, b < w.heap.size → b ∉ W → w'.heap[b]? = w.heap[b]?

def Eff (P : Program) (G : List (Nat × List Value)) (x : St) (o : Oper) (W : List Nat) (post : St → Prop) : Prop :=
 ∀ (C : Ctx) (a : Act) (w : World) (K : Act → World → Prop) (Q : Exit → Act → World → Prop), C.G = G → Sim C x a w → (∀ y a' w', post y → Sim C y a' w' → Chg W w w' → Fr w (bks x.S) w' (bks y.S) → K a' w') → o.wp P a w K Q

theorem Chg.refl (W : List Nat) (w : World) : Chg W w w := ⟨Nat.le_refl _, fun _ _ _ => rfl⟩

theorem Still.eff {k : Rd} {d : D} {t : Nat} (h : Still P G x o k d) (hd : o.dst = some t) : Eff P G x o [] (fun y => y = x.put t d) := fun C a w K Q hG hs hK => by
 obtain ⟨v, hr, hrun⟩ := h C a w hG hs
 unfold Oper.wp
 rw [hrun w (Same.self C x w k), Oper.upon_value, hd]
 exact hK _ _ _ rfl (hs.put hr) (Chg.refl _ _) (Fr.refl _ _)

def cellsOf : D → List D
 | .agg cs => cs
 | .v (.agg cs) => cs.toList.map .v
 | d => [d]

def RepL (w : World) (L : Nat → Prop) (ds : List D) (vs : List Value) : Prop := vs.length = ds.length ∧ ∀ i (h : i < ds.length) (h' : i < vs.length), Rep w L ds[i] vs[i]

theorem RepL.mono {w w' : World} {L L' : Nat → Prop} {ds : List D} {vs : List Value} (h : RepL w L ds vs) (H : ∀ b, b < w.heap.size → ¬ L b → w'.heap[b]? = w.heap[b]? ∧ ¬ L' b) : RepL w' L' ds vs :=
 ⟨h.1, fun i h1 h2 => (h.2 i h1 h2).mono H⟩

def one : D → Bool
 | .v x => x.oneCell'
 | .list .. | .iptr .. | .clo .. => true
 | _ => false

theorem Rep.one_cell {w : World} {L : Nat → Prop} {d : D} {v : Value} (h : Rep w L d v) (hd : one d = true) : v.oneCell' = true := by
 cases h <;> first | exact hd | rfl | exact absurd hd (by simp [one])

theorem Rep.cells {w : World} {L : Nat → Prop} {d : D} {v : Value} (h : Rep w L d v) (hd : d ≠ .junk) : RepL w L (cellsOf d) v.cells.toList := by
 have single : ∀ (d : D) (v : Value), v.cells = #[v] → cellsOf d = [d] → Rep w L d v → RepL w L (cellsOf d) v.cells.toList := fun d v h1 h2 h3 => by
  rw [h1, h2]
  refine ⟨rfl, fun i q1 q2 => ?_⟩
  have : i = 0 := by simpa using q1
  subst this
  exact h3
 cases h with
 | v =>
  cases v with
  | agg cs =>
   refine ⟨by simp [cellsOf, Value.cells], fun i q1 q2 => ?_⟩
   simp only [cellsOf, List.getElem_map, Value.cells]
   exact .v _
  | _ => exact single _ _ rfl rfl (.v _)
 | void sz ad cap => exact single _ _ rfl rfl (.void sz ad cap)
 | list sz cs len b o cap f hl h1 h2 hb hL hc hr => exact single _ _ rfl rfl (.list sz cs len b o cap f hl h1 h2 hb hL hc hr)
 | iptr cs off b o f hb hL hc hr => exact single _ _ rfl rfl (.iptr cs off b o f hb hL hc hr)
 | agg cs vs hl hr => exact ⟨by simp [cellsOf, Value.cells, hl], fun i q1 q2 => hr i q1 q2⟩
 | tup cs vs hl hr => exact single _ _ rfl rfl (.tup cs vs hl hr)
 | clo fn cs vs hl hr => exact single _ _ rfl rfl (.clo fn cs vs hl hr)
 | yld l os h => exact single _ _ rfl rfl (.yld l os h)
 | junk => exact absurd rfl hd

theorem getElem?_push_lt {w : World} {ob : Obj} {b : Nat} (h : b < w.heap.size) : (w.alloc ob).heap[b]? = w.heap[b]? := Below.heap_alloc w ob b h

theorem Sim.newOb {C : Ctx} {a : Act} {w : World} (h : Sim C x a w) {t : Nat} {cells : Array Value} {e : TypeId} {ds : List D} {size : Nat} (hr : RepL w (live C.X x.S) ds cells.toList) (hsz : cells.size = size) {d : D} {v : Value}
  (hd : ∀ L, Rep (w.alloc (ob e cells)) L d v) :
  Sim C ⟨x.n, (t, d) :: x.env, ⟨w.heap.size, e, size, ds⟩ :: x.S⟩ (a.put (some t) v) (w.alloc (ob e cells)) := by
 have hlt : ∀ b, live C.X x.S b → b < w.heap.size := fun b hb => by
  rcases hb with hb | hb
  ·exact Nat.lt_of_lt_of_le (h.ex b hb).1 h.fr.size
  obtain ⟨B, hB, rfl⟩ := List.mem_map.1 hb
  exact (h.own.at_ B hB).1
 have H : ∀ b, b < w.heap.size → ¬ live C.X x.S b → (w.alloc (ob e cells)).heap[b]? = w.heap[b]? ∧ ¬ live C.X (⟨w.heap.size, e, size, ds⟩ :: x.S) b := fun b hb hn =>
  ⟨getElem?_push_lt hb, fun hl => by
   rcases hl with hl | hl
   ·exact hn (.inl hl)
   simp only [bks, List.map_cons, List.mem_cons] at hl
   rcases hl with hl | hl
   ·omega
   exact hn (.inr hl)⟩
 have base : Sim C ⟨x.n, x.env, ⟨w.heap.size, e, size, ds⟩ :: x.S⟩ a (w.alloc (ob e cells)) := by
  refine ⟨h.defers, h.size, fun t ht => (h.env t ht).mono H, ⟨fun B hB => ?_, ?_⟩, ?_, h.ex, h.tab⟩
  ·rcases List.mem_cons.1 hB with rfl | hB
   ·refine ⟨by simp, cells, heap_alloc_new w _, hsz, ?_, fun i hi => ?_⟩
    ·have := hr.1; simp at this; simp only; omega
    have hi' : i < cells.toList.length := by rw [hr.1]; exact hi
    refine ⟨cells.toList[i], ?_, (hr.2 i hi hi').mono H⟩
    simp at hi'
    simp [hi']
   obtain ⟨h0, cur, h1, h2, h3, h4⟩ := h.own.at_ B hB
   refine ⟨by simp; omega, cur, (getElem?_push_lt h0).trans h1, h2, h3, fun i hi => ?_⟩
   obtain ⟨u, hu, hq⟩ := h4 i hi
   exact ⟨u, hu, hq.mono H⟩
  ·show (w.heap.size :: bks x.S).Nodup
   exact List.nodup_cons.2 ⟨fun hm => Nat.lt_irrefl _ (hlt _ (.inr hm)), h.own.apart⟩
  refine ⟨h.fr.os, h.fr.tape, h.fr.output, by simp; have := h.fr.size; omega, fun b hb hn => ?_⟩
  obtain ⟨q1, q2⟩ := h.fr.block b hb hn
  have hb' := Nat.lt_of_lt_of_le hb h.fr.size
  refine ⟨(getElem?_push_lt hb').trans q1, fun hm => ?_⟩
  simp only [bks, List.map_cons, List.mem_cons] at hm
  rcases hm with hm | hm
  ·omega
  exact q2 hm
 exact base.put (hd _)

theorem Sim.new {C : Ctx} {a : Act} {w : World} (h : Sim C x a w) {t : Nat} {cells : Array Value} {e : TypeId} {ds : List D} {size : Nat} (hr : RepL w (live C.X x.S) ds cells.toList) (hsz : cells.size = size) {d : D} {v : Value}
  (hd : ∀ L, Rep (w.alloc (.cells cells e)) L d v) (hne : isMap e = false := by rfl) :
  Sim C ⟨x.n, (t, d) :: x.env, ⟨w.heap.size, e, size, ds⟩ :: x.S⟩ (a.put (some t) v) (w.alloc (.cells cells e)) := by
 have := Sim.newOb h (e := e) hr hsz (t := t) (d := d) (v := v) (fun L => by rw [ob_cells hne]; exact hd L)
 rw [ob_cells hne] at this
 exact this

theorem Chg.alloc (w : World) (ob : Obj) : Chg [] w (w.alloc ob) := ⟨by simp, fun b hb _ => getElem?_push_lt hb⟩

theorem Fr.alloc (w : World) (ob : Obj) (S : List Nat) : Fr w S (w.alloc ob) (w.heap.size :: S) :=
 ⟨rfl, rfl, rfl, by simp, fun b hb hn => ⟨getElem?_push_lt hb, fun hm => by
  rcases List.mem_cons.1 hm with hm | hm
  ·omega
  exact hn hm⟩⟩

def newBox (x : St) (t : Nat) (e : TypeId) (ds : List D) (y : St) : Prop := ∃ b, y = ⟨x.n, (t, .v (.pointer (some ⟨b, 0, none⟩))) :: x.env, ⟨b, e, ds.length, ds⟩ :: x.S⟩

theorem eff_alloc {e : TypeId} {z : Value} {t : Nat} {ds : List D} (ho : o.op = .alloc e) (hd : o.dst = some t) (hz : ∀ w, (zeroValue e).run P w = .ok z w) (hds : z.cells.toList.map .v = ds) (hne : isMap e = false := by rfl) : Eff P G x o [] (newBox x t e ds) := fun C a w K Q hG h hK => by
 subst hds
 unfold Oper.wp
 have : (execOp a.eval o).run P w = .ok (.value (.pointer (some ⟨w.heap.size, 0, none⟩))) (w.alloc (.cells z.cells e)) := by
  unfold execOp
  simp [ho, Instr.alloc, hz, newVar, newRow]
 rw [this, Oper.upon_value, hd]
 refine hK _ _ _ ⟨w.heap.size, rfl⟩ (h.new (ds := z.cells.toList.map .v) ⟨by simp, fun i q1 q2 => ?_⟩ (by simp) (fun L => .v _) hne) (Chg.alloc _ _) (Fr.alloc _ _ _)
 simp only [List.getElem_map]
 exact .v _

theorem eff_box {e : TypeId} {y : Operand} {t : Nat} {d : D} {ds : List D} (ho : o.op = .box e y) (hd : o.dst = some t) (hy : opd x y = d) (hj : d ≠ .junk) (hds : cellsOf d = ds) (hne : isMap e = false := by rfl) : Eff P G x o [] (newBox x t e ds) := fun C a w K Q hG h hK => by
 subst hds
 unfold Oper.wp
 have : (execOp a.eval o).run P w = .ok (.value (.pointer (some ⟨w.heap.size, 0, none⟩))) (w.alloc (.cells (a.eval y).cells e)) := by
  unfold execOp
  simp [ho, Instr.box, newVar, newRow]
 rw [this, Oper.upon_value, hd]
 have hr := h.eval y
 rw [hy] at hr
 have hc := hr.cells hj
 refine hK _ _ _ ⟨w.heap.size, rfl⟩ (h.new (ds := cellsOf d) hc (by have := hc.1; simpa using this) (fun L => .v _) hne) (Chg.alloc _ _) (Fr.alloc _ _ _)

end Go.Proofs.YtjgekbmahhhokaaDoor.V

namespace Go.Proofs.YtjgekbmahhhokaaDoor.V
open Go.RowKit
set_option linter.unusedVariables false
set_option linter.unusedSimpArgs false

variable {P : Program} {G : List (Nat × List Value)} {x : St} {o : Oper}

/-! ### Structs and lists that are built -/

def setAll (cs : List D) (off : Nat) : List D → List D
 | [] => cs
 | d :: r => setAll (cs.set off d) (off + 1) r

def fillD (place : Nat → Option (Nat × Nat)) (cells : List D) : List (Nat × D) → Option (List D)
 | [] => some cells
 | (i, d) :: rest =>
  match place i with
  | none => none
  | some (off, size) => if (cellsOf d).length ≠ size || off + (cellsOf d).length > cells.length then none else fillD place (setAll cells off (cellsOf d)) rest

theorem RepL.set {w : World} {L : Nat → Prop} {ds : List D} {vs : List Value} (h : RepL w L ds vs) (i : Nat) {d : D} {v : Value} (hd : Rep w L d v) : RepL w L (ds.set i d) (vs.set i v) :=
 ⟨by simp [h.1], fun j h1 h2 => by
  rw [List.getElem_set, List.getElem_set]
  split
  ·exact hd
  exact h.2 j _ _⟩

theorem RepL.tail {w : World} {L : Nat → Prop} {d : D} {ds : List D} {v : Value} {vs : List Value} (h : RepL w L (d :: ds) (v :: vs)) : Rep w L d v ∧ RepL w L ds vs :=
 ⟨h.2 0 (by simp) (by simp), by simpa using h.1, fun i h1 h2 => h.2 (i + 1) (by simpa using h1) (by simpa using h2)⟩

theorem zip_shift {β : Type} (f : β → Value → Nat → β) : ∀ (r : List Value) (k : Nat) (z : β), (r.zipIdx (k + 1)).foldl (fun c (x : Value × Nat) => f c x.1 x.2) z = (r.zipIdx k).foldl (fun c (x : Value × Nat) => f c x.1 (x.2 + 1)) z
 | [], _, _ => rfl
 | v :: r, k, z => by
  simp only [List.zipIdx_cons, List.foldl_cons]
  exact zip_shift f r (k + 1) _

theorem RepL.setAll {w : World} {L : Nat → Prop} : ∀ (ds : List D) (vs : List Value) (cs : List D) (cells : List Value) (off : Nat), RepL w L ds vs → RepL w L cs cells → RepL w L (setAll cs off ds) (vs.zipIdx.foldl (fun cs (c, j) => cs.set (off + j) c) cells)
 | [], [], cs, cells, off, _, h => h
 | [], _ :: _, _, _, _, h, _ => by simp [RepL] at h
 | _ :: _, [], _, _, _, h, _ => by simp [RepL] at h
 | d :: ds, v :: vs, cs, cells, off, h, hc => by
  obtain ⟨h0, h1⟩ := h.tail
  have ih := RepL.setAll ds vs (cs.set off d) (cells.set off v) (off + 1) h1 (hc.set off h0)
  have e : (v :: vs).zipIdx.foldl (fun cs (x : Value × Nat) => cs.set (off + x.2) x.1) cells = vs.zipIdx.foldl (fun cs (x : Value × Nat) => cs.set (off + 1 + x.2) x.1) (cells.set off v) := by
   rw [List.zipIdx_cons, List.foldl_cons, Nat.add_zero, zip_shift (fun (c : List Value) v n => c.set (off + n) v)]
   congr 1
   funext a b
   rw [Nat.add_assoc, Nat.add_comm 1]
  rw [e]
  exact ih

theorem foldl_arr : ∀ (l : List (Value × Nat)) (cells : Array Value) (off : Nat), (l.foldl (fun cs (x : Value × Nat) => cs.setIfInBounds (off + x.2) x.1) cells).toList = l.foldl (fun cs (x : Value × Nat) => cs.set (off + x.2) x.1) cells.toList
 | [], _, _ => rfl
 | (v, j) :: l, cells, off => by
  simp only [List.foldl_cons]
  rw [foldl_arr l]
  simp

theorem fill_rep {w : World} {L : Nat → Prop} (place : Nat → Option (Nat × Nat)) : ∀ (parts : List (Nat × D)) (vals : List (Nat × Value)) (cs : List D) (cells : Array Value) (ds : List D),
  parts.length = vals.length → (∀ i (h : i < parts.length) (h' : i < vals.length), parts[i].1 = vals[i].1 ∧ parts[i].2 ≠ .junk ∧ Rep w L parts[i].2 vals[i].2) → RepL w L cs cells.toList → fillD place cs parts = some ds →
  ∃ cells', Instr.fill place cells vals = some cells' ∧ RepL w L ds cells'.toList
 | [], [], cs, cells, ds, _, _, hc, hf => by
  simp only [fillD, Option.some.injEq] at hf
  subst hf
  exact ⟨cells, rfl, hc⟩
 | [], _ :: _, _, _, _, h, _, _, _ => by simp at h
 | _ :: _, [], _, _, _, h, _, _, _ => by simp at h
 | (i, d) :: parts, (j, v) :: vals, cs, cells, ds, hl, hp, hc, hf => by
  obtain ⟨h1, h2, h3⟩ := hp 0 (by simp) (by simp)
  simp only [List.getElem_cons_zero] at h1 h2 h3
  subst h1
  have hcd := h3.cells h2
  have hcl : v.cells.size = (cellsOf d).length := by have := hcd.1; simpa using this
  have hsz : cells.size = cs.length := by have := hc.1; simpa using this
  unfold fillD at hf
  unfold Instr.fill
  cases hpl : place i with
  | none => rw [hpl] at hf; simp at hf
  | some os =>
   obtain ⟨off, size⟩ := os
   simp only [hpl] at hf ⊢
   rw [hcl, hsz]
   split at hf
   ·cases hf
   rename_i hn
   rw [if_neg hn]
   refine fill_rep place parts vals _ _ ds (by simpa using hl) (fun i h h' => hp (i + 1) (by simpa using h) (by simpa using h')) ?_ hf
   have := RepL.setAll (w := w) (L := L) (cellsOf d) v.cells.toList cs cells.toList off hcd hc
   rw [← foldl_arr] at this
   have e : v.cells.zipIdx.foldl (fun cs (x : Value × Nat) => cs.setIfInBounds (off + x.2) x.1) cells = v.cells.toList.zipIdx.foldl (fun cs (x : Value × Nat) => cs.setIfInBounds (off + x.2) x.1) cells := by
    rw [← Array.foldl_toList, Array.toList_zipIdx]
   rw [e]
   exact this

theorem RepL.vals (w : World) (L : Nat → Prop) (vs : List Value) : RepL w L (vs.map .v) vs := ⟨by simp, fun i h1 h2 => by simp only [List.getElem_map]; exact .v _⟩

def partsD (x : St) (ps : Array (Nat × Operand)) : List (Nat × D) := ps.toList.map fun p => (p.1, opd x p.2)

theorem parts_rep {C : Ctx} {a : Act} {w : World} (h : Sim C x a w) (ps : Array (Nat × Operand)) (hj : ∀ p ∈ partsD x ps, p.2 ≠ .junk) : (partsD x ps).length = ((ps.map fun p => (p.1, a.eval p.2)).toList).length ∧
  ∀ i (h1 : i < (partsD x ps).length) (h2 : i < ((ps.map fun p => (p.1, a.eval p.2)).toList).length), (partsD x ps)[i].1 = ((ps.map fun p => (p.1, a.eval p.2)).toList)[i].1 ∧ (partsD x ps)[i].2 ≠ .junk ∧ Rep w (live C.X x.S) (partsD x ps)[i].2 ((ps.map fun p => (p.1, a.eval p.2)).toList)[i].2 := by
 refine ⟨by simp [partsD], fun i h1 h2 => ⟨?_, hj _ (List.getElem_mem h1), ?_⟩⟩
 ·simp [partsD]
 simp only [partsD, List.getElem_map, Array.toList_map]
 exact h.eval _

theorem still_build {t : TypeId} {ps : Array (Nat × Operand)} {fs : Array Field} {places : Array (Nat × Nat)} {z : Value} {ds : List D} (ho : o.op = .build t ps) (hz : ∀ w, (zeroValue t).run P w = .ok z w)
  (hu : ∀ w, (underlying t).run P w = .ok (.struct fs) w) (hp : ∀ w, (fs.mapM fun f => do pure (f.offset, ← sizeOf f.type) : Sem (Array (Nat × Nat))).run P w = .ok places w)
  (hj : ∀ p ∈ partsD x ps, p.2 ≠ .junk) (hd : fillD (places[·]?) (z.cells.toList.map .v) (partsD x ps) = some ds) : Still P G x o .none (.agg ds) := fun C a w _ h => by
 obtain ⟨q1, q2⟩ := parts_rep h ps hj
 obtain ⟨cells', h1, h2⟩ := fill_rep (w := w) (L := live C.X x.S) (places[·]?) (partsD x ps) ((ps.map fun p => (p.1, a.eval p.2)).toList) _ z.cells ds q1 q2 (RepL.vals _ _ _) hd
 refine ⟨.agg cells'.toList.toArray, .agg _ _ h2.1 h2.2, fun w' _ => ?_⟩
 unfold execOp
 simp only [ho, Instr.build, hz, hu, hp, Sem.run_bind, Result.andThen_ok, h1, Sem.run_pure, Array.toArray_toList]

def newRow' (x : St) (t : Nat) (e : TypeId) (len : Nat) (ds : List D) (y : St) : Prop := ∃ b, y = ⟨x.n, (t, .v (.slice (some ⟨b, 0, none⟩) len len)) :: x.env, ⟨b, e, ds.length, ds⟩ :: x.S⟩

theorem eff_buildSlice {t e : TypeId} {tt len sz : Nat} {ps : Array (Nat × Operand)} {z : Value} {zs : List D} {ds : List D} (ho : o.op = .buildSlice t len ps) (hdst : o.dst = some tt) (hz : ∀ w, (zeroValue e).run P w = .ok z w)
  (hu : ∀ w, (underlying t).run P w = .ok (.slice e) w) (hs : ∀ w, (sizeOf e).run P w = .ok sz w) (hl : 0 < len * sz) (hl2 : len * sz ≤ 2 ^ 24) (hzs : (Array.range (len * sz)).map (fun i => z.cells[i % z.cells.size]!) = (zs.map (fun d => match d with | .v u => u | _ => undef)).toArray) (hzv : ∀ d ∈ zs, ∃ u, d = .v u)
  (hj : ∀ p ∈ partsD x ps, p.2 ≠ .junk) (hd : fillD (fun i => some (i * sz, sz)) zs (partsD x ps) = some ds) (hne : isMap e = false := by rfl) : Eff P G x o [] (newRow' x tt e len ds) := fun C a w K Q hG h hK => by
 obtain ⟨q1, q2⟩ := parts_rep h ps hj
 have hzr : RepL w (live C.X x.S) zs ((zs.map (fun d => match d with | .v u => u | _ => undef)).toArray).toList := by
  refine ⟨by simp, fun i h1 h2 => ?_⟩
  obtain ⟨u, hu⟩ := hzv _ (List.getElem_mem h1)
  simp only [List.getElem_map, hu]
  exact .v _
 obtain ⟨cells', h1, h2⟩ := fill_rep (w := w) (L := live C.X x.S) (fun i => some (i * sz, sz)) (partsD x ps) ((ps.map fun p => (p.1, a.eval p.2)).toList) _ _ ds q1 q2 hzr hd
 unfold Oper.wp
 have : (execOp a.eval o).run P w = .ok (.value (.slice (some ⟨w.heap.size, 0, none⟩) len len)) (w.alloc (.cells cells' e)) := by
  unfold execOp
  have hne' : ¬ len * sz = 0 := by omega
  have hng : ¬ len * sz > 2 ^ 24 := by omega
  simp only [ho, Instr.buildSlice, hz, hu, hs, Sem.run_bind, Result.andThen_ok, Sem.run_pure, if_neg hne', if_neg hng, hzs, h1]
  simp [newRow]
 rw [this, Oper.upon_value, hdst]
 exact hK _ _ _ ⟨w.heap.size, rfl⟩ (h.new (ds := ds) h2 (by have := h2.1; simpa using this) (fun L => .v _) hne) (Chg.alloc _ _) (Fr.alloc _ _ _)

/-! ### Stores -/

theorem setCells_heap (b : Nat) : ∀ (vs : List Value) (o' : Nat) (w : World) (cur : Array Value) (e : TypeId), w.heap[b]? = some (.cells cur e (0, 0)) → o' + vs.length ≤ cur.size →
  (w.setCells b o' vs).heap[b]? = some (.cells (vs.zipIdx.foldl (fun cs (x : Value × Nat) => cs.setIfInBounds (o' + x.2) x.1) cur) e (0, 0)) ∧ (∀ k, k ≠ b → (w.setCells b o' vs).heap[k]? = w.heap[k]?) ∧ (w.setCells b o' vs).heap.size = w.heap.size ∧
  (w.setCells b o' vs).os = w.os ∧ (w.setCells b o' vs).tape = w.tape ∧ (w.setCells b o' vs).output = w.output
 | [], o', w, cur, e, h, _ => ⟨h, fun _ _ => rfl, rfl, rfl, rfl, rfl⟩
 | v :: r, o', w, cur, e, h, hl => by
  have h0 : (w.setCell ⟨b, o', none⟩ v).heap[b]? = some (.cells (cur.setIfInBounds o' v) e (0, 0)) := by
   simp [World.setCell, Array.getElem?_modify, h]
  obtain ⟨i1, i2, i3, i4, i5, i6⟩ := setCells_heap b r (o' + 1) (w.setCell ⟨b, o', none⟩ v) (cur.setIfInBounds o' v) e h0 (by simp at hl ⊢; omega)
  refine ⟨?_, fun k hk => ?_, ?_, i4, i5, i6⟩
  ·rw [World.setCells, i1, List.zipIdx_cons, List.foldl_cons, Nat.add_zero, zip_shift (fun (c : Array Value) v n => c.setIfInBounds (o' + n) v)]
   congr 3
   funext a b
   rw [Nat.add_assoc, Nat.add_comm 1]
  ·rw [World.setCells, i2 k hk, Below.heap_setCell _ _ _ _ hk]
  rw [World.setCells, i3]; simp

theorem setAll_length : ∀ (ds cs : List D) (off : Nat), (setAll cs off ds).length = cs.length
 | [], cs, off => rfl
 | d :: ds, cs, off => by rw [setAll, setAll_length ds]; simp

theorem Sim.store {C : Ctx} {a : Act} {w : World} (h : Sim C x a w) {k o' : Nat} {B : Blk} {ds : List D} {vs : List Value} (hk : x.S[k]? = some B) (hr : RepL w (live C.X x.S) ds vs) (hl : o' + ds.length ≤ B.cs.length) (hne : isMap B.e = false := by rfl) :
  Sim C ⟨x.n, x.env, x.S.set k { B with cs := setAll B.cs o' ds }⟩ a (w.setCells B.b o' vs) ∧ Chg [B.b] w (w.setCells B.b o' vs) ∧ Fr w (bks x.S) (w.setCells B.b o' vs) (bks (x.S.set k { B with cs := setAll B.cs o' ds })) := by
 obtain ⟨h0, cur, h1, h2, h3, h4⟩ := h.blk hk
 rw [ob_cells hne] at h1
 have hvl : vs.length = ds.length := hr.1
 obtain ⟨i1, i2, i3, i4, i5, i6⟩ := setCells_heap B.b vs o' w cur B.e h1 (by omega)
 have hkl : k < x.S.length := (List.getElem?_eq_some_iff.1 hk).1
 have hkB : x.S[k] = B := (List.getElem?_eq_some_iff.1 hk).2
 have hbks : bks (x.S.set k { B with cs := setAll B.cs o' ds }) = bks x.S := by
  unfold bks
  rw [List.map_set]
  apply List.ext_getElem (by simp)
  intro i q1 q2
  rw [List.getElem_set]
  split
  ·rename_i e; subst e; simp [hkB]
  rfl
 have hlive : live C.X (x.S.set k { B with cs := setAll B.cs o' ds }) = live C.X x.S := by funext b; simp only [live, hbks]
 have hB : live C.X x.S B.b := live_blk hk
 have H : ∀ b, b < w.heap.size → ¬ live C.X x.S b → (w.setCells B.b o' vs).heap[b]? = w.heap[b]? ∧ ¬ live C.X x.S b := fun b _ hn => ⟨i2 b (fun e => hn (e ▸ hB)), hn⟩
 refine ⟨⟨h.defers, h.size, fun t ht => ?_, ⟨fun B' hB' => ?_, ?_⟩, ?_, h.ex, h.tab⟩, ⟨by rw [i3]; exact Nat.le_refl _, fun b _ hn => i2 b (by simpa using hn)⟩, ?_⟩
 ·simp only [hlive]; exact (h.env t ht).mono H
 ·simp only [hlive]
  obtain ⟨j, hj, hje⟩ := List.mem_iff_getElem.1 hB'
  rw [List.length_set] at hj
  rw [List.getElem_set] at hje
  by_cases e : k = j
  ·rw [if_pos e] at hje
   subst hje
   refine ⟨by rw [i3]; exact h0, _, i1.trans (by rw [ob_cells hne]), ?_, by simp only [setAll_length]; exact h3, fun i hi => ?_⟩
   ·have := foldl_arr vs.zipIdx cur o'
    have hlen := congrArg List.length this
    have hgen : ∀ (l : List (Value × Nat)) (c : List Value), (l.foldl (fun cs (x : Value × Nat) => cs.set (o' + x.2) x.1) c).length = c.length := by
     intro l; induction l with
     | nil => intro c; rfl
     | cons p l ih => intro c; rw [List.foldl_cons, ih]; simp
    rw [hgen] at hlen
    simp only [Array.length_toList] at hlen
    rw [hlen, h2]
   have hcs : RepL w (live C.X x.S) B.cs (cur.toList.take B.cs.length) := by
    refine ⟨by simp; omega, fun i q1 q2 => ?_⟩
    obtain ⟨u, hu, hq⟩ := h4 i q1
    have : (cur.toList.take B.cs.length)[i] = u := by
     rw [List.getElem_take]
     rw [← Array.getElem?_toList, List.getElem?_eq_some_iff] at hu
     exact hu.2
    rw [this]; exact hq
   have hset := RepL.setAll ds vs B.cs (cur.toList.take B.cs.length) o' hr hcs
   have htake : ∀ (l : List (Value × Nat)) (c : List Value), (∀ p ∈ l, o' + p.2 < B.cs.length) → l.foldl (fun cs (x : Value × Nat) => cs.set (o' + x.2) x.1) (c.take B.cs.length) = (l.foldl (fun cs (x : Value × Nat) => cs.set (o' + x.2) x.1) c).take B.cs.length := by
    intro l; induction l with
    | nil => intro c _; rfl
    | cons p l ih =>
     intro c hp
     rw [List.foldl_cons, List.foldl_cons, ← ih _ (fun q hq => hp q (List.mem_cons_of_mem _ hq)), List.take_set]
   rw [htake vs.zipIdx cur.toList (fun p hp => by have := List.mem_zipIdx hp; omega), ← foldl_arr] at hset
   simp only at hi
   have hi' := hi
   rw [← hset.1] at hi'
   have hq := hset.2 i hi hi'
   rw [List.getElem_take] at hq
   refine ⟨_, ?_, hq.mono H⟩
   rw [← Array.getElem?_toList, List.getElem?_eq_getElem]
  rw [if_neg e] at hje
  subst hje
  have hne : x.S[j].b ≠ B.b := fun he => by
   have hn := h.own.apart
   have h1' : (bks x.S)[j]'(by simpa [bks] using hj) = (bks x.S)[k]'(by simpa [bks] using hkl) := by simp [bks, he, hkB]
   have hp := List.pairwise_iff_getElem.1 hn
   rcases Nat.lt_trichotomy j k with hjk | hjk | hjk
   ·exact hp j k (by simpa [bks] using hj) (by simpa [bks] using hkl) hjk h1'
   ·exact e hjk.symm
   exact hp k j (by simpa [bks] using hkl) (by simpa [bks] using hj) hjk h1'.symm
  obtain ⟨r0, cur', r1, r2, r3, r4⟩ := h.own.at_ x.S[j] (List.getElem_mem hj)
  refine ⟨by rw [i3]; exact r0, cur', (i2 _ hne).trans r1, r2, r3, fun i hi => ?_⟩
  obtain ⟨u, hu, hq⟩ := r4 i hi
  exact ⟨u, hu, hq.mono H⟩
 ·simp only [hbks]; exact h.own.apart
 ·refine ⟨i4.trans h.fr.os, i5.trans h.fr.tape, i6.trans h.fr.output, by rw [i3]; exact h.fr.size, fun b hb hn => ?_⟩
  obtain ⟨q1, q2⟩ := h.fr.block b hb hn
  refine ⟨(i2 b (fun e => q2 (e ▸ List.mem_map.2 ⟨B, List.mem_of_getElem? hk, rfl⟩))).trans q1, ?_⟩
  simp only [hbks]; exact q2
 rw [hbks]
 exact ⟨i4, i5, i6, by rw [i3]; exact Nat.le_refl _, fun b hb hn => ⟨i2 b (fun e => hn (e ▸ List.mem_map.2 ⟨B, List.mem_of_getElem? hk, rfl⟩)), hn⟩⟩

theorem eff_store {t : TypeId} {k b o' n : Nat} {B : Blk} {d : D} {cs' : List D} {y z : Operand} (ho : o.op = .store t y z) (hdst : o.dst = none) (hy : opd x y = .v (.pointer (some ⟨b, o', none⟩)))
  (hk : x.S[k]? = some B) (hb : B.b = b) (hz : opd x z = d) (hj : d ≠ .junk) (h1 : (cellsOf d).all one = true) (hn : ∀ w, (sizeOf t).run P w = .ok n w) (hln : (cellsOf d).length = n) (hl : o' + n ≤ B.cs.length) (hcs : setAll B.cs o' (cellsOf d) = cs') (hne : isMap B.e = false := by rfl) :
  Eff P G x o [b] (fun y => y = ⟨x.n, x.env, x.S.set k { B with cs := cs' }⟩) := fun C a w K Q hG h hK => by
 subst hcs hb
 have hr := h.eval z
 rw [hz] at hr
 have hc := hr.cells hj
 obtain ⟨s1, s2, s3⟩ := h.store hk hc (o' := o') (by omega) hne
 obtain ⟨h0, cur, q1, q2, q3, q4⟩ := h.blk hk
 rw [ob_cells hne] at q1
 have hvl : (a.eval z).cells.toList.length = n := by rw [hc.1, hln]
 have hrun := run_storeCells_cells (P := P) B.b o' (a.eval z).cells.toList 0 w (fun j hj => by
   have : (o' + 0 + j) < cur.size := by omega
   rw [cell_blk q1 (u := cur[o' + 0 + j]) (by simp [this])]; rfl)
  (fun j hj => by unfold World.frozen?; simp [q1]) (fun v hv => by
   obtain ⟨j, hj, rfl⟩ := List.mem_iff_getElem.1 hv
   have hj' : j < (cellsOf d).length := by rw [← hc.1]; exact hj
   exact (hc.2 j hj' hj).one_cell (List.all_eq_true.1 h1 _ (List.getElem_mem hj')))
 have hrun2 : (execOp a.eval o).run P w = .ok .skip (w.setCells B.b o' (a.eval z).cells.toList) := by
  unfold execOp
  have hsz : (a.eval z).cells.size = n := by simpa using hvl
  simp only [Nat.add_zero] at hrun
  simp [ho, h.flat hy, Instr.storeAt, Instr.sureAddr, storeVar, hn, hsz, hrun]
 unfold Oper.wp
 rw [hrun2, Oper.upon_skip, hdst]
 exact hK _ _ _ rfl s1 s2 s3

end Go.Proofs.YtjgekbmahhhokaaDoor.V

namespace Go.Proofs.YtjgekbmahhhokaaDoor.V
open Go.RowKit
set_option linter.unusedVariables false
set_option linter.unusedSimpArgs false

variable {P : Program} {G : List (Nat × List Value)} {x : St} {o : Oper}

/-! ### A contract -/

structure Pre (G : List (Nat × List Value)) (X : Nat → Prop) (w : World) (S : List Blk) (args : List D) (vs : List Value) : Prop where
 ex : ∀ b, X b → b < w.heap.size ∧ b ∉ bks S
 tab : ∀ g ∈ G, (g.1 < w.heap.size ∧ g.1 ∉ bks S ∧ ¬ X g.1) ∧ ∀ i v, g.2[i]? = some v → tabCell w g.1 i v
 own : Own w (live X S) S
 args : RepL w (live X S) args vs

def VC (P : Program) (G : List (Nat × List Value)) (f : FuncId) (args : List D) (S : List Blk) (post : D → List Blk → Prop) : Prop :=
 ∀ (X : Nat → Prop) (w : World) (vs : List Value), Pre G X w S args vs → Calls P f vs.toArray w fun e w' => ∃ v r S', e = .returned v ∧ post r S' ∧ Own w' (live X S') S' ∧ Rep w' (live X S') r v ∧ Fr w (bks S) w' (bks S')

theorem VC.mono {f : FuncId} {args : List D} {S : List Blk} {post post' : D → List Blk → Prop} (h : VC P G f args S post) (k : ∀ r S', post r S' → post' r S') : VC P G f args S post' := fun X w vs hp =>
 (h X w vs hp).mono fun e w' ⟨v, r, S', h1, h2, h3⟩ => ⟨v, r, S', h1, k r S' h2, h3⟩

abbrev VP (P : Program) (G : List (Nat × List Value)) (f : FuncId) (args : List D) (r : D) : Prop := VC P G f args [] fun r' S' => r' = r ∧ S' = []

theorem live_perm {X : Nat → Prop} {S Sf R : List Blk} (hp : S.Perm (Sf ++ R)) : live X S = live (fun b => X b ∨ b ∈ bks R) Sf := by
 funext b
 have : (bks S).Perm (bks Sf ++ bks R) := by have := hp.map Blk.b; simpa [bks] using this
 have := this.mem_iff (a := b)
 simp only [live, List.mem_append] at *
 rw [this]
 exact propext ⟨fun h => by rcases h with h | h | h <;> simp [h], fun h => by rcases h with (h | h) | h <;> simp [h]⟩

theorem Sim.call {C : Ctx} {a : Act} {w : World} (h : Sim C x a w) (hG : C.G = G) {f : FuncId} {args : List D} {vs : List Value} {Sf R : List Blk} {post : D → List Blk → Prop} (hc : VC P G f args Sf post) (hp : x.S.Perm (Sf ++ R)) (hr : RepL w (live C.X x.S) args vs) :
  Calls P f vs.toArray w fun e w' => ∃ v r S', e = .returned v ∧ post r S' ∧ Rep w' (live C.X (S' ++ R)) r v ∧ Sim C ⟨x.n, x.env, S' ++ R⟩ a w' ∧ Chg (bks Sf) w w' ∧ Fr w (bks x.S) w' (bks (S' ++ R)) := by
 have hb : (bks x.S).Perm (bks Sf ++ bks R) := by have := hp.map Blk.b; simpa [bks] using this
 have hL := live_perm (X := C.X) hp
 have hnd : (bks Sf ++ bks R).Nodup := hb.nodup_iff.1 h.own.apart
 obtain ⟨n1, n2, n3⟩ := List.nodup_append.1 hnd
 have hRlt : ∀ b, b ∈ bks R → b < w.heap.size := fun b hbm => by
  obtain ⟨B, hB, rfl⟩ := List.mem_map.1 hbm
  exact (h.own.at_ B (hp.symm.subset (List.mem_append_right _ hB))).1
 have hpre : Pre G (fun b => C.X b ∨ b ∈ bks R) w Sf args vs := by
  refine ⟨fun b hx => ?_, fun g hg => ?_, ⟨fun B hB => ?_, n1⟩, ?_⟩
  ·rcases hx with hx | hx
   ·obtain ⟨q1, q2⟩ := h.ex b hx
    exact ⟨Nat.lt_of_lt_of_le q1 h.fr.size, fun hm => (h.fr.block b q1 q2).2 (hb.symm.subset (List.mem_append_left _ hm))⟩
   exact ⟨hRlt b hx, fun hm => n3 b hm b hx rfl⟩
  ·rw [← hG] at hg
   obtain ⟨⟨q1, q2, q3⟩, q4⟩ := h.tab g hg
   have q5 := (h.fr.block g.1 q1 q2).2
   refine ⟨⟨Nat.lt_of_lt_of_le q1 h.fr.size, fun hm => q5 (hb.symm.subset (List.mem_append_left _ hm)), fun hx => ?_⟩, fun i v hi => h.tabAt hg hi⟩
   rcases hx with hx | hx
   ·exact q3 hx
   exact q5 (hb.symm.subset (List.mem_append_right _ hx))
  ·rw [← hL]; exact h.own.at_ B (hp.symm.subset (List.mem_append_left _ hB))
  rw [← hL]; exact hr
 refine (hc _ w vs hpre).mono fun e w' ⟨v, r, S', h1, h2, h3, h4, h5⟩ => ⟨v, r, S', h1, h2, ?_, ?_, ⟨h5.size, fun b hb' hn => (h5.block b hb' hn).1⟩, ?_⟩
 ·have : live C.X (S' ++ R) = live (fun b => C.X b ∨ b ∈ bks R) S' := live_perm (List.Perm.refl _)
  rw [this]; exact h4
 ·have hL' : live C.X (S' ++ R) = live (fun b => C.X b ∨ b ∈ bks R) S' := live_perm (List.Perm.refl _)
  have H : ∀ b, b < w.heap.size → ¬ live C.X x.S b → w'.heap[b]? = w.heap[b]? ∧ ¬ live C.X (S' ++ R) b := fun b hlt hn => by
   rw [hL] at hn
   have hnSf : b ∉ bks Sf := fun hm => hn (.inr hm)
   obtain ⟨q1, q2⟩ := h5.block b hlt hnSf
   refine ⟨q1, fun hl => ?_⟩
   rw [hL'] at hl
   rcases hl with hl | hl
   ·exact hn (.inl hl)
   exact q2 hl
  refine ⟨h.defers, h.size, fun t ht => (h.env t ht).mono H, ⟨fun B hB => ?_, ?_⟩, ?_, h.ex, h.tab⟩
  ·rcases List.mem_append.1 hB with hB | hB
   ·have := h3.at_ B hB
    rw [← hL'] at this; exact this
   obtain ⟨r0, cur, r1, r2, r3, r4⟩ := h.own.at_ B (hp.symm.subset (List.mem_append_right _ hB))
   have hBm : B.b ∈ bks R := List.mem_map.2 ⟨B, hB, rfl⟩
   have hnSf : B.b ∉ bks Sf := fun hm => n3 B.b hm B.b hBm rfl
   have hh := (h5.block B.b r0 hnSf).1
   refine ⟨lt_of_same r0 hh, cur, hh.trans r1, r2, r3, fun i hi => ?_⟩
   obtain ⟨u, hu, hq⟩ := r4 i hi
   exact ⟨u, hu, hq.mono H⟩
  ·show (bks (S' ++ R)).Nodup
   have : bks (S' ++ R) = bks S' ++ bks R := by simp [bks]
   rw [this]
   refine List.nodup_append.2 ⟨h3.apart, n2, fun b hb1 c hc1 he => ?_⟩
   subst he
   have hnSf : b ∉ bks Sf := fun hm => n3 b hm b hc1 rfl
   exact (h5.block b (hRlt b hc1) hnSf).2 hb1
  refine ⟨h5.os.trans h.fr.os, h5.tape.trans h.fr.tape, h5.output.trans h.fr.output, Nat.le_trans h.fr.size h5.size, fun b hb' hn => ?_⟩
  obtain ⟨q1, q2⟩ := h.fr.block b hb' hn
  have hn1 : b ∉ bks Sf := fun hm => q2 (hb.symm.subset (List.mem_append_left _ hm))
  have hn2 : b ∉ bks R := fun hm => q2 (hb.symm.subset (List.mem_append_right _ hm))
  obtain ⟨q3, q4⟩ := h5.block b (Nat.lt_of_lt_of_le hb' h.fr.size) hn1
  refine ⟨q3.trans q1, fun hm => ?_⟩
  have : bks (S' ++ R) = bks S' ++ bks R := by simp [bks]
  rw [this] at hm
  rcases List.mem_append.1 hm with hm | hm
  ·exact q4 hm
  exact hn2 hm
 refine ⟨h5.os, h5.tape, h5.output, h5.size, fun b hb' hn => ?_⟩
 have hn1 : b ∉ bks Sf := fun hm => hn (hb.symm.subset (List.mem_append_left _ hm))
 have hn2 : b ∉ bks R := fun hm => hn (hb.symm.subset (List.mem_append_right _ hm))
 obtain ⟨q3, q4⟩ := h5.block b hb' hn1
 refine ⟨q3, fun hm => ?_⟩
 have : bks (S' ++ R) = bks S' ++ bks R := by simp [bks]
 rw [this] at hm
 rcases List.mem_append.1 hm with hm | hm
 ·exact q4 hm
 exact hn2 hm

theorem RepL.opds {C : Ctx} {a : Act} {w : World} (h : Sim C x a w) (ars : List Operand) : RepL w (live C.X x.S) (ars.map (opd x)) (ars.map a.eval) :=
 ⟨by simp, fun i h1 h2 => by simp only [List.getElem_map]; exact h.eval _⟩

theorem RepL.append {w : World} {L : Nat → Prop} {ds ds' : List D} {vs vs' : List Value} (h : RepL w L ds vs) (h' : RepL w L ds' vs') : RepL w L (ds ++ ds') (vs ++ vs') :=
 ⟨by simp [h.1, h'.1], fun i h1 h2 => by
  by_cases hi : i < ds.length
  ·rw [List.getElem_append_left hi, List.getElem_append_left (by rw [h.1]; exact hi)]
   exact h.2 i _ _
  rw [List.getElem_append_right (by omega), List.getElem_append_right (by rw [h.1]; omega)]
  have := h.1
  simp only [this]
  exact h'.2 _ _ _⟩

def called (x : St) (t : Nat) (R : List Blk) (post : D → List Blk → Prop) (y : St) : Prop := ∃ r S', post r S' ∧ y = ⟨x.n, (t, r) :: x.env, S' ++ R⟩

theorem eff_call {f t : Nat} {fo : Operand} {ars : Array Operand} {ts : Array TypeId} {args : List D} {Sf R : List Blk} {post : D → List Blk → Prop} (ho : o.op = .call { callee := .value fo, args := ars, argTypes := ts }) (hd : o.dst = some t)
  (hf : fo = .func f) (hcall : ∀ args w, (callFunc f args).run P w = .ok (.enter f args) w) (ha : ars.toList.map (opd x) = args) (hp : x.S.Perm (Sf ++ R)) (hc : VC P G f args Sf post) :
  Eff P G x o (bks Sf) (called x t R post) := fun C a w K Q hG h hK => by
 subst hf ha
 have hr := RepL.opds h ars.toList
 have hrun : (execOp a.eval o).run P w = .ok (.enter f (ars.toList.map a.eval).toArray) w := by
  unfold execOp
  have e : ars.map a.eval = (ars.toList.map a.eval).toArray := by
   rw [← Array.toList_map, Array.toArray_toList]
  simp only [ho, resolve, Act.eval, Deferred.ofValue, Sem.run_bind, Sem.run_pure, Result.andThen_ok, invoke, e]
  simp [hcall]
 unfold Oper.wp
 rw [hrun, Oper.upon_enter, hd]
 refine (h.call hG hc hp hr).mono fun e w' ⟨v, r, S', h1, h2, h3, h4, h5, h6⟩ => ?_
 subst h1
 exact hK _ _ _ ⟨r, S', h2, rfl⟩ (h4.put h3) h5 h6

theorem eff_callv {f t : Nat} {fo : Operand} {ars : Array Operand} {ts : Array TypeId} {args caps : List D} {Sf R : List Blk} {post : D → List Blk → Prop} (ho : o.op = .call { callee := .value fo, args := ars, argTypes := ts }) (hd : o.dst = some t)
  (hf : opd x fo = .clo (.func f) caps) (hcall : ∀ args w, (callFunc f args).run P w = .ok (.enter f args) w) (ha : ars.toList.map (opd x) ++ caps = args) (hp : x.S.Perm (Sf ++ R)) (hc : VC P G f args Sf post) :
  Eff P G x o (bks Sf) (called x t R post) := fun C a w K Q hG h hK => by
 subst ha
 have hr := RepL.opds h ars.toList
 have hfv := h.eval fo
 rw [hf] at hfv
 generalize hg : a.eval fo = u at hfv
 cases hfv with
 | clo _ _ vs hl hcr =>
  have hrun : (execOp a.eval o).run P w = .ok (.enter f (ars.toList.map a.eval ++ vs).toArray) w := by
   unfold execOp
   have e : ars.map a.eval ++ vs.toArray = (ars.toList.map a.eval ++ vs).toArray := by
    rw [← List.append_toArray, ← Array.toList_map, Array.toArray_toList]
   simp only [ho, resolve, hg, Deferred.ofValue, Sem.run_bind, Sem.run_pure, Result.andThen_ok, invoke]
   simp [hcall]
  unfold Oper.wp
  rw [hrun, Oper.upon_enter, hd]
  refine (h.call hG hc hp (hr.append ⟨hl, hcr⟩)).mono fun e w' ⟨v, r, S', h1, h2, h3, h4, h5, h6⟩ => ?_
  subst h1
  exact hK _ _ _ ⟨r, S', h2, rfl⟩ (h4.put h3) h5 h6

theorem perm_pick {S : List Blk} {k : Nat} {B : Blk} (hk : S[k]? = some B) : S.Perm (B :: S.eraseIdx k) := by
 obtain ⟨h1, h2⟩ := List.getElem?_eq_some_iff.1 hk
 subst h2
 clear hk
 induction S generalizing k with
 | nil => simp at h1
 | cons A S ih =>
  cases k with
  | zero => exact List.Perm.refl _
  | succ k =>
   have h1' : k < S.length := by simpa using h1
   rw [List.eraseIdx_cons_succ]
   exact ((ih h1').cons A).trans (List.Perm.swap _ _ _)

theorem perm_none (S : List Blk) : S.Perm ([] ++ S) := List.Perm.refl _
/-! ### A list of one's own is given up to reading -/

theorem Rep.given {w : World} {X : Nat → Prop} {S : List Blk} {k : Nat} {B : Blk} {sz n cap : Nat} (h : Own w (live X S) S) (hX : ∀ b, X b → b ∉ bks S) (hk : S[k]? = some B) (hl : B.cs.length = n * sz) (h1 : n ≤ cap) (h2 : cap ≤ maxLen) (hne : isMap B.e = false := by rfl) :
  Rep w (live X (S.eraseIdx k)) (.list sz B.cs n) (.slice (some ⟨B.b, 0, none⟩) n cap) := by
 have hm := List.mem_of_getElem? hk
 obtain ⟨r0, cur, r1, r2, r3, r4⟩ := h.at_ B hm
 rw [ob_cells hne] at r1
 have hsub : (bks (S.eraseIdx k)).Sublist (bks S) := List.Sublist.map _ (List.eraseIdx_sublist S k)
 have hL : ¬ live X (S.eraseIdx k) B.b := fun hl => by
  rcases hl with hl | hl
  ·exact hX _ hl (List.mem_map.2 ⟨B, hm, rfl⟩)
  have hp : (bks S).Perm (B.b :: bks (S.eraseIdx k)) := by have := (perm_pick hk).map Blk.b; simpa [bks] using this
  have hnd := hp.nodup_iff.1 h.apart
  exact (List.nodup_cons.1 hnd).1 hl
 refine .list sz B.cs n B.b 0 cap (fun i => cur.getD i undef) hl h1 h2 r0 hL (fun i hi => ?_) (fun i hi => ?_)
 ·obtain ⟨u, hu, _⟩ := r4 i hi
  rw [Nat.zero_add, cell_blk r1 hu]
  simp [hu]
 obtain ⟨u, hu, hq⟩ := r4 i hi
 simp only [Array.getD_eq_getD_getElem?, hu, Option.getD_some]
 exact hq.mono fun b _ hn => ⟨rfl, fun hl => hn (hl.imp id fun q => hsub.subset q)⟩

theorem Sim.exS {C : Ctx} {a : Act} {w : World} (h : Sim C x a w) : ∀ b, C.X b → b ∉ bks x.S := fun b hb => (h.fr.block b (h.ex b hb).1 (h.ex b hb).2).2

theorem Wk.give {n : Nat} {l : List (Nat × D)} {S : List Blk} {k t m cap sz : Nat} {B : Blk} {cs : List D} (hk : S[k]? = some B) (ht : look t l = .v (.slice (some ⟨B.b, 0, none⟩) m cap)) (hcs : B.cs = cs) (hl : cs.length = m * sz) (h1 : m ≤ cap) (h2 : cap ≤ maxLen) (hne : isMap B.e = false := by rfl) :
  Wk ⟨n, l, S⟩ ⟨n, (t, .list sz cs m) :: l, S.eraseIdx k⟩ := fun C a w h => by
 subst hcs
 have hd := Wk.drop n l S (S.eraseIdx k) (List.eraseIdx_sublist S k) C a w h
 refine ⟨hd.defers, hd.size, fun i hi => ?_, hd.own, hd.fr, hd.ex, hd.tab⟩
 simp only [look_cons]
 by_cases e : t = i
 ·subst e
  rw [if_pos rfl]
  have hv := h.env t hi
  simp only [ht] at hv
  rw [hv.v_eq]
  exact Rep.given h.own h.exS hk hl h1 h2 hne
 rw [if_neg e]; exact hd.env i hi

theorem Wk.giveNil {n : Nat} {l : List (Nat × D)} {S : List Blk} {t sz : Nat} (ht : look t l = .v (.slice none 0 0)) : Wk ⟨n, l, S⟩ ⟨n, (t, .list sz [] 0) :: l, S⟩ := fun C a w h => by
 refine ⟨h.defers, h.size, fun i hi => ?_, h.own, h.fr, h.ex, h.tab⟩
 simp only [look_cons]
 by_cases e : t = i
 ·subst e
  rw [if_pos rfl]
  have hv := h.env t hi
  simp only [ht] at hv
  rw [hv.v_eq]
  exact .nil sz
 rw [if_neg e]; exact h.env i hi

theorem Wk.giveIn {n : Nat} {l : List (Nat × D)} {S S' : List Blk} {k j i m cap sz : Nat} {B A : Blk} {cs cs' : List D} (hk : S[k]? = some B) (hj : (S.eraseIdx k)[j]? = some A) (hi : A.cs[i]? = some (.v (.slice (some ⟨B.b, 0, none⟩) m cap))) (hcs : B.cs = cs) (hl : cs.length = m * sz) (h1 : m ≤ cap) (h2 : cap ≤ maxLen)
  (hcs' : A.cs.set i (.list sz cs m) = cs') (hS : (S.eraseIdx k).set j { A with cs := cs' } = S') (hne : isMap B.e = false := by rfl) : Wk ⟨n, l, S⟩ ⟨n, l, S'⟩ := fun C a w h => by
 subst hcs hcs' hS
 have hd := Wk.drop n l S (S.eraseIdx k) (List.eraseIdx_sublist S k) C a w h
 have hrep := Rep.given h.own h.exS hk hl h1 h2 hne
 have hjl := (List.getElem?_eq_some_iff.1 hj).1
 have hjA := (List.getElem?_eq_some_iff.1 hj).2
 have hbks : bks ((S.eraseIdx k).set j { A with cs := A.cs.set i (.list sz B.cs m) }) = bks (S.eraseIdx k) := by
  unfold bks
  rw [List.map_set]
  apply List.ext_getElem (by simp)
  intro i q1 q2
  rw [List.getElem_set]
  split
  ·rename_i e; subst e; simp [hjA]
  rfl
 have hlive : live C.X ((S.eraseIdx k).set j { A with cs := A.cs.set i (.list sz B.cs m) }) = live C.X (S.eraseIdx k) := by funext b; simp only [live, hbks]
 refine ⟨hd.defers, hd.size, fun t ht => ?_, ⟨fun B' hB' => ?_, ?_⟩, ?_, hd.ex, hd.tab⟩
 ·simp only [hlive]; exact hd.env t ht
 ·simp only [hlive]
  obtain ⟨p, hp, hpe⟩ := List.mem_iff_getElem.1 hB'
  rw [List.length_set] at hp
  rw [List.getElem_set] at hpe
  by_cases e : j = p
  ·rw [if_pos e] at hpe
   subst hpe
   obtain ⟨r0, cur, r1, r2, r3, r4⟩ := hd.own.at_ A (List.mem_of_getElem? hj)
   refine ⟨r0, cur, r1, r2, by simpa using r3, fun q hq => ?_⟩
   simp only [List.length_set] at hq
   obtain ⟨u, hu, hqr⟩ := r4 q hq
   refine ⟨u, hu, ?_⟩
   rw [List.getElem_set]
   split
   ·rename_i he
    subst he
    have := (List.getElem?_eq_some_iff.1 hi).2
    rw [this] at hqr
    rw [hqr.v_eq]; exact hrep
   exact hqr
  rw [if_neg e] at hpe
  subst hpe
  exact hd.own.at_ _ (List.getElem_mem hp)
 ·simp only [hbks]; exact hd.own.apart
 simp only [hbks]; exact hd.fr

end Go.Proofs.YtjgekbmahhhokaaDoor.V

namespace Go.Proofs.YtjgekbmahhhokaaDoor.V
open Go.RowKit
set_option linter.unusedVariables false
set_option linter.unusedSimpArgs false

variable {P : Program} {G : List (Nat × List Value)} {x : St} {o : Oper}

def grownTo (x : St) (t : Nat) (e : TypeId) (sz len : Nat) (cs : List D) (S : List Blk) (y : St) : Prop :=
 ∃ b cap, len ≤ cap ∧ cap ≤ maxLen ∧ y = ⟨x.n, (t, .v (.slice (some ⟨b, 0, none⟩) len cap)) :: x.env, ⟨b, e, cap * sz, cs⟩ :: S⟩

theorem Sim.grown {C : Ctx} {a : Act} {w w' : World} (h : Sim C x a w) {t g cap e sz m : Nat} {row : Option Nat} {S : List Blk} {cs : List D} {cur : Array Value}
  (hS : S.Sublist x.S) (hrow : ∀ k, row = some k → k ∈ bks x.S ∧ k ∉ bks S) (hgrow : w.grownBy w' row) (hg : row = some g ∨ g = w.heap.size) (hlt : g < w'.heap.size)
  (hcur : w'.heap[g]? = some (.cells cur e (0, 0))) (hsz : cur.size = cap * sz) (hl : cs.length ≤ cap * sz) (hr : ∀ i (h : i < cs.length), ∃ u, cur[i]? = some u ∧ Rep w (live C.X x.S) cs[i] u) (hne : isMap e = false := by rfl) :
  Sim C ⟨x.n, (t, .v (.slice (some ⟨g, 0, none⟩) m cap)) :: x.env, ⟨g, e, cap * sz, cs⟩ :: S⟩ (a.put (some t) (.slice (some ⟨g, 0, none⟩) m cap)) w' ∧ Chg row.toList w w' ∧ Fr w (bks x.S) w' (bks (⟨g, e, cap * sz, cs⟩ :: S)) := by
 have hsub : (bks S).Sublist (bks x.S) := List.Sublist.map _ hS
 have hlt' : ∀ b, live C.X x.S b → b < w.heap.size := fun b hb => by
  rcases hb with hb | hb
  ·exact Nat.lt_of_lt_of_le (h.ex b hb).1 h.fr.size
  obtain ⟨B, hB, rfl⟩ := List.mem_map.1 hb
  exact (h.own.at_ B hB).1
 have hgS : g ∉ bks S := by
  rcases hg with hg | hg
  ·exact (hrow g hg).2
  intro hm; have := hlt' g (.inr (hsub.subset hm)); omega
 have hgX : ¬ C.X g := fun hx => by
  rcases hg with hg | hg
  ·exact h.exS g hx (hrow g hg).1
  have := hlt' g (.inl hx); omega
 have hgold : g < w.heap.size → g ∈ bks x.S := fun hlt => by
  rcases hg with hg | hg
  ·exact (hrow g hg).1
  omega
 have H : ∀ b, b < w.heap.size → ¬ live C.X x.S b → w'.heap[b]? = w.heap[b]? ∧ ¬ live C.X (⟨g, e, cap * sz, cs⟩ :: S) b := fun b hb hn => by
  refine ⟨hgrow.block b hb (fun hm => hn (.inr (hrow b hm.symm).1)), fun hl => ?_⟩
  rcases hl with hl | hl
  ·exact hn (.inl hl)
  simp only [bks, List.map_cons, List.mem_cons] at hl
  rcases hl with hl | hl
  ·subst hl; exact hn (.inr (hgold hb))
  exact hn (.inr (hsub.subset hl))
 have base : Sim C ⟨x.n, x.env, ⟨g, e, cap * sz, cs⟩ :: S⟩ a w' := by
  refine ⟨h.defers, h.size, fun t ht => (h.env t ht).mono H, ⟨fun B hB => ?_, ?_⟩, ?_, h.ex, h.tab⟩
  ·rcases List.mem_cons.1 hB with rfl | hB
   ·refine ⟨hlt, cur, hcur.trans (by rw [ob_cells hne]), hsz, hl, fun i hi => ?_⟩
    obtain ⟨u, hu, hq⟩ := hr i hi
    exact ⟨u, hu, hq.mono H⟩
   obtain ⟨r0, cur', r1, r2, r3, r4⟩ := h.own.at_ B (hS.subset hB)
   have hBm : B.b ∈ bks S := List.mem_map.2 ⟨B, hB, rfl⟩
   have hh := hgrow.block B.b r0 (fun hm => (hrow B.b hm.symm).2 hBm)
   refine ⟨lt_of_same r0 hh, cur', hh.trans r1, r2, r3, fun i hi => ?_⟩
   obtain ⟨u, hu, hq⟩ := r4 i hi
   exact ⟨u, hu, hq.mono H⟩
  ·show (g :: bks S).Nodup
   exact List.nodup_cons.2 ⟨hgS, h.own.apart.sublist hsub⟩
  refine ⟨hgrow.os.trans h.fr.os, hgrow.tape.trans h.fr.tape, hgrow.output.trans h.fr.output, Nat.le_trans h.fr.size hgrow.size, fun b hb hn => ?_⟩
  obtain ⟨q1, q2⟩ := h.fr.block b hb hn
  have hb' := Nat.lt_of_lt_of_le hb h.fr.size
  refine ⟨(hgrow.block b hb' (fun hm => q2 (hrow b hm.symm).1)).trans q1, fun hm => ?_⟩
  simp only [bks, List.map_cons, List.mem_cons] at hm
  rcases hm with hm | hm
  ·subst hm; exact q2 (hgold hb')
  exact q2 (hsub.subset hm)
 refine ⟨base.put (.v _), ⟨hgrow.size, fun b hb hn => hgrow.block b hb (fun hm => hn (by rw [← hm]; simp))⟩, ⟨hgrow.os, hgrow.tape, hgrow.output, hgrow.size, fun b hb hn => ?_⟩⟩
 refine ⟨hgrow.block b hb (fun hm => hn (hrow b hm.symm).1), fun hm => ?_⟩
 simp only [bks, List.map_cons, List.mem_cons] at hm
 rcases hm with hm | hm
 ·subst hm; exact hn (hgold hb)
 exact hn (hsub.subset hm)

theorem run_append {s y : Operand} {t : Nat} {v v' : Value} {w w' : World} {a : Act} (ho : o.op = .call { callee := .builtin .append, args := #[s, y], argTypes := #[t, t] }) (hs : a.eval s = v) {u : Value} (hy : a.eval y = u)
  (hrun : (Builtin.append_ #[t, t] o.type #[v, u]).run P w = .ok v' w') : (execOp a.eval o).run P w = .ok (.value v') w' := by
 unfold execOp
 simp [ho, resolve, invoke, builtin, hs, hy, hrun]

theorem info_at {e sz bytes : Nat} {z : Value} (hi : (P.info? e).map (fun i => (i.zero, i.size, i.bytes)) = some (some z, sz, bytes)) : ∃ i, P.info? e = some i ∧ i.zero = some z ∧ i.size = sz ∧ i.bytes = bytes := by
 cases h : P.info? e with
 | none => simp [h] at hi
 | some i => simp [h] at hi; exact ⟨i, rfl, hi⟩

theorem eff_append {s y : Operand} {t e tt sz bytes n m b cap k : Nat} {z : Value} {B : Blk} {cs : List D} (ho : o.op = .call { callee := .builtin .append, args := #[s, y], argTypes := #[t, t] }) (hd : o.dst = some tt)
  (ht : P.underlying t = some (.slice e)) (hi : (P.info? e).map (fun i => (i.zero, i.size, i.bytes)) = some (some z, sz, bytes)) (hzs : z.cells.size = sz) (hsz : 0 < sz)
  (hs : opd x s = .v (.slice (some ⟨b, 0, none⟩) n cap)) (hk : x.S[k]? = some B) (hb : B.b = b) (he : B.e = e) (hsize : B.size = cap * sz) (hl : B.cs.length = n * sz) (hn : n ≤ cap) (hcap : cap ≤ maxLen)
  (hy : opd x y = .list sz cs m) (hone : ∀ d ∈ cs, one d = true) (hm : 0 < m) (h63 : n + m ≤ maxLen) (hbytes : (n + m) * bytes ≤ 140737488355328) (hne : isMap B.e = false := by rfl) :
  Eff P G x o [b] (grownTo x tt e sz (n + m) (B.cs ++ cs) (x.S.eraseIdx k)) := fun C a w K Q hG h hK => by
 subst hb he
 obtain ⟨i, hi1, hi2, hi3, hi4⟩ := info_at hi
 obtain ⟨r0, cur, r1, r2, r3, r4⟩ := h.blk hk
 rw [ob_cells hne] at r1
 have hr := h.eval y
 rw [hy] at hr
 generalize hg : a.eval y = u at hr
 cases hr with
 | void => omega
 | list _ _ _ b' o' cap' f hl' q1 q2 hb' hL hc hrr =>
  have hown : w.ownsRow 0 B.e sz (.slice (some ⟨B.b, 0, none⟩) n cap) n (cur.toList.take (n * sz)) :=
   ⟨by simp; omega, .inr ⟨B.b, cap, cur, rfl, Nat.zero_le _, r1, hn, hcap, by omega, rfl⟩⟩
  obtain ⟨v', w', hrun, h2, h3, _, h5⟩ := run_append_own_at (P := P) w 0 t o.type B.e i z sz bytes ht hi1 hi2 hi3 hi4 hzs hsz _ n _ hown ⟨b', o', none⟩ m cap' ((List.range cs.length).map f) (by simp [hl']) (fun j u hu => by
    rw [Addr.add_mid]
    obtain ⟨hj, he⟩ := List.getElem?_eq_some_iff.1 hu
    simp only [List.length_map, List.length_range] at hj
    rw [hc j hj, ← he]; simp) (fun u hu => by
    obtain ⟨j, hj, rfl⟩ := List.mem_map.1 hu
    have hj' := List.mem_range.1 hj
    exact (hrr j hj').one_cell (hone _ (List.getElem_mem hj'))) h63 hbytes (Nat.zero_le _)
  obtain ⟨g, cap2, rfl, _, hlt⟩ := h2.form (by omega)
  have h6 : (Value.slice (some ⟨B.b, 0, none⟩) n cap).ownBlock = some g ∨ g = w.heap.size := by
   rcases h5 with h5 | h5
   ·exact .inl (by rw [← h5]; rfl)
   right; simpa [Value.ownBlock] using h5
  obtain ⟨_, h2⟩ := h2
  rcases h2 with ⟨h2, _⟩ | ⟨g', cap', cur', e1, _, e2, e3, e4, e5, e6⟩
  ·cases h2
  have e1' : g = g' ∧ cap2 = cap' := by simpa using e1
  obtain ⟨rfl, rfl⟩ := e1'
  have hlen : (B.cs ++ cs).length = (n + m) * sz := by rw [List.length_append, hl, hl', Nat.add_mul]
  have hge : (n + m) * sz ≤ cap2 * sz := Nat.mul_le_mul_right _ e3
  have hcur : ∀ i, i < (n + m) * sz → cur'[i]? = (cur.toList.take (n * sz) ++ (List.range cs.length).map f)[i]? := fun i hi => by
   rw [← e6, List.getElem?_take_of_lt hi, Array.getElem?_toList]
  obtain ⟨s1, s2, s3⟩ := h.grown (t := tt) (m := n + m) (e := B.e) (sz := sz) (S := x.S.eraseIdx k) (cs := B.cs ++ cs) (row := some B.b) (g := g) (cap := cap2) (List.eraseIdx_sublist _ _) (fun k' hk' => by
    have : B.b = k' := by simpa using hk'
    subst this
    refine ⟨List.mem_map.2 ⟨B, List.mem_of_getElem? hk, rfl⟩, fun hm => ?_⟩
    have hp : (bks x.S).Perm (B.b :: bks (x.S.eraseIdx k)) := by have := (perm_pick hk).map Blk.b; simpa [bks] using this
    exact (List.nodup_cons.1 (hp.nodup_iff.1 h.own.apart)).1 hm) h3 h6 hlt e2 e5 (by omega) (fun i hi => by
    rw [hlen] at hi
    rw [hcur i hi]
    by_cases hin : i < n * sz
    ·obtain ⟨u, hu, hq⟩ := r4 i (by omega)
     refine ⟨u, ?_, ?_⟩
     ·rw [List.getElem?_append_left (by simp; omega), List.getElem?_take_of_lt hin, Array.getElem?_toList, hu]
     rw [List.getElem_append_left (by omega)]; exact hq
    have hin2 : i - n * sz < cs.length := by rw [hl']; rw [Nat.add_mul] at hi; omega
    refine ⟨f (i - n * sz), ?_, ?_⟩
    ·rw [List.getElem?_append_right (by simp; omega)]
     have : (cur.toList.take (n * sz)).length = n * sz := by simp; omega
     rw [this]
     simp [hin2]
    rw [List.getElem_append_right (by omega)]
    have := hrr (i - n * sz) hin2
    simp only [hl]
    exact this) hne
  unfold Oper.wp
  rw [run_append (P := P) ho (h.flat hs) hg hrun, Oper.upon_value, hd]
  exact hK _ _ _ ⟨g, cap2, e3, e4, rfl⟩ s1 s2 s3

theorem eff_appendNil {s y : Operand} {t e tt sz bytes m : Nat} {z : Value} {cs : List D} (ho : o.op = .call { callee := .builtin .append, args := #[s, y], argTypes := #[t, t] }) (hd : o.dst = some tt)
  (ht : P.underlying t = some (.slice e)) (hi : (P.info? e).map (fun i => (i.zero, i.size, i.bytes)) = some (some z, sz, bytes)) (hzs : z.cells.size = sz) (hsz : 0 < sz)
  (hs : opd x s = .v (.slice none 0 0)) (hy : opd x y = .list sz cs m) (hone : ∀ d ∈ cs, one d = true) (hm : 0 < m) (h63 : m ≤ maxLen) (hbytes : m * bytes ≤ 140737488355328) (hne : isMap e = false := by rfl) :
  Eff P G x o [] (grownTo x tt e sz m cs x.S) := fun C a w K Q hG h hK => by
 obtain ⟨i, hi1, hi2, hi3, hi4⟩ := info_at hi
 have hr := h.eval y
 rw [hy] at hr
 generalize hg : a.eval y = u at hr
 cases hr with
 | void => omega
 | list _ _ _ b' o' cap' f hl' q1 q2 hb' hL hc hrr =>
  have hown : w.ownsRow 0 e sz (.slice none 0 0) 0 [] := ⟨by simp, .inl ⟨rfl, rfl⟩⟩
  obtain ⟨v', w', hrun, h2, h3, _, h5⟩ := run_append_own_at (P := P) w 0 t o.type e i z sz bytes ht hi1 hi2 hi3 hi4 hzs hsz _ 0 _ hown ⟨b', o', none⟩ m cap' ((List.range cs.length).map f) (by simp [hl']) (fun j u hu => by
    rw [Addr.add_mid]
    obtain ⟨hj, he⟩ := List.getElem?_eq_some_iff.1 hu
    simp only [List.length_map, List.length_range] at hj
    rw [hc j hj, ← he]; simp) (fun u hu => by
    obtain ⟨j, hj, rfl⟩ := List.mem_map.1 hu
    have hj' := List.mem_range.1 hj
    exact (hrr j hj').one_cell (hone _ (List.getElem_mem hj'))) (by rw [Nat.zero_add]; exact h63) (by rw [Nat.zero_add]; exact hbytes) (Nat.zero_le _)
  simp only [Nat.zero_add, List.nil_append] at h2
  obtain ⟨g, cap2, rfl, _, hlt⟩ := h2.form (by omega)
  have h6 : (none : Option Nat) = some g ∨ g = w.heap.size := by
   rcases h5 with h5 | h5
   ·simp [Value.ownBlock] at h5
   right; simpa [Value.ownBlock] using h5
  obtain ⟨_, h2⟩ := h2
  rcases h2 with ⟨h2, _⟩ | ⟨g', cap', cur', e1, _, e2, e3, e4, e5, e6⟩
  ·cases h2
  have e1' : g = g' ∧ cap2 = cap' := by simpa using e1
  obtain ⟨rfl, rfl⟩ := e1'
  have hge : m * sz ≤ cap2 * sz := Nat.mul_le_mul_right _ e3
  obtain ⟨s1, s2, s3⟩ := h.grown (t := tt) (m := m) (e := e) (sz := sz) (S := x.S) (cs := cs) (row := none) (g := g) (cap := cap2) (List.Sublist.refl _) (fun k' hk' => by cases hk') h3 h6 hlt e2 e5 (by omega) (fun i hi => by
    refine ⟨f i, ?_, hrr i hi⟩
    have : cur'[i]? = ((List.range cs.length).map f)[i]? := by rw [← e6, List.getElem?_take_of_lt (by omega), Array.getElem?_toList]
    rw [this]; simp [hi]) hne
  unfold Oper.wp
  rw [run_append (P := P) ho (h.flat hs) hg hrun, Oper.upon_value, hd]
  exact hK _ _ _ ⟨g, cap2, e3, e4, rfl⟩ s1 s2 s3

theorem still_append0 {s y : Operand} {t e sz n cap : Nat} {ad : Option Addr} {cs : List D} (ho : o.op = .call { callee := .builtin .append, args := #[s, y], argTypes := #[t, t] })
  (hu : ∀ w, (underlying t).run P w = .ok (.slice e) w) (hsz : ∀ w, (sizeOf e).run P w = .ok sz w) (hs : opd x s = .v (.slice ad n cap)) (hn : n ≤ cap) (hy : opd x y = .list sz cs 0) : Still P G x o .none (.v (.slice ad n cap)) := fun C a w _ h => by
 refine ⟨_, .v _, fun w' _ => ?_⟩
 have hr := h.eval y
 rw [hy] at hr
 generalize hg : a.eval y = u at hr
 refine run_append (P := P) ho (h.flat hs) hg ?_
 have hn' : n + 0 ≤ cap := hn
 cases hr with
 | void _ ad' cap' => cases ad' <;> cases ad <;> simp [Builtin.append_, hu, hsz, Builtin.lenOf, Builtin.firstCells, storeCells, loadCells, loadCellsFrom, hn, Nat.not_lt.2 hn]
 | list _ _ _ b' o' cap' f hl' q1 q2 hb' hL hc hrr => cases ad <;> simp [Builtin.append_, hu, hsz, Builtin.lenOf, Builtin.firstCells, storeCells, loadCells, loadCellsFrom, hn, Nat.not_lt.2 hn]

end Go.Proofs.YtjgekbmahhhokaaDoor.V

namespace Go.Proofs.YtjgekbmahhhokaaDoor.V
open Go.RowKit
set_option linter.unusedVariables false
set_option linter.unusedSimpArgs false

def LQ (C : Ctx) (Q : Exit → St → Prop) : Exit → Act → World → Prop := fun e a w => (∃ y, Sim C y a w ∧ Q e y) ∨ (e = .ret ∧ C.esc a w)

def CD (P : Program) (C : Ctx) (c : Code) (x : St) (Q : Exit → St → Prop) : Prop := ∀ a w, Sim C x a w → c.wp P (LQ C Q) a w

def OD (P : Program) (C : Ctx) (ops : Array Oper) (l : List Oper) (x : St) (Q : Exit → St → Prop) : Prop := ∀ a w, Sim C x a w → wpList P ops (LQ C Q) l a w

variable {P : Program} {C : Ctx} {Q : Exit → St → Prop} {x y : St} {ops : Array Oper} {l : List Oper} {o : Oper}

def Wants (ops : Array Oper) (x : St) (o : Oper) (b : Bool) : Prop := ∀ C a w, Sim C x a w → Region.wanted o (yielded ops a.tmps) = b

theorem wants_plain (h : o.guard = none) : Wants ops x o true := fun C a w _ => by simp [Region.wanted, h]

theorem wants_if {g t : Nat} {want b : Bool} (h : o.guard = some (g, want)) (hg : (ops[g]?).bind (·.dst) = some t) (ht : t < x.n) (hb : look t x.env = .v (.bool b)) : Wants ops x o (b == want) := fun C a w hs => by
 have hv := hs.env t ht
 rw [hb] at hv
 have hv := hv.v_eq
 have hsz := hs.size
 have : a.tmps[t]? = some (.bool b) := by
  rw [Array.getD_eq_getD_getElem?, Array.getElem?_eq_getElem (by omega)] at hv
  rw [Array.getElem?_eq_getElem (by omega)]
  simpa using hv
 simp only [Region.wanted, h, yielded, hg, Option.bind_some, this]
 cases b <;> cases want <;> rfl

/-! ### What a slot holds -/
theorem look_hit {t : Nat} {d : D} {r : List (Nat × D)} : look t ((t, d) :: r) = d := by rw [look_cons, if_pos rfl]
theorem look_nil {t : Nat} : look t [] = .junk := rfl
theorem look_at {t : Nat} {d d' : D} {r : List (Nat × D)} (h : d = d') : look t ((t, d) :: r) = d' := by rw [look_cons, if_pos rfl, h]
theorem look_miss {t i : Nat} {d d' : D} {r : List (Nat × D)} (h : Nat.beq i t = false) (k : look t r = d') : look t ((i, d) :: r) = d' := by rw [look, h]; exact k
theorem opd_const {v : Value} {x : St} : opd x (.const v) = .v v := rfl
theorem opd_func {f : FuncId} {x : St} : opd x (.func f) = .clo (.func f) [] := rfl
theorem opd_glob {g : Nat} {x : St} : opd x (.global g) = .v (.pointer (some ⟨g, 0, none⟩)) := rfl
theorem opd_tmp {t : Nat} {d : D} {x : St} (h : Nat.blt t x.n = true) (k : look t x.env = d) : opd x (.tmp t) = d := by simp only [opd, h, k]; rfl
theorem lk {t : Nat} {l : List (Nat × D)} {d : D} (h : look t l = d := by (repeat (first | exact look_hit | (apply look_miss; focus rfl) | exact look_nil)); done) : look t l = d := h
theorem ot {t : Nat} {d : D} {x : St} (h : Nat.blt t x.n = true := by exact rfl) (k : look t x.env = d := by (repeat (first | exact look_hit | (apply look_miss; focus rfl) | exact look_nil)); done) : opd x (.tmp t) = d := opd_tmp h k

def Slots (l : List (Nat × D)) : List (Nat × D) → Prop
 | [] => True
 | (i, d) :: r => look i l = d ∧ Slots l r

theorem Slots.look {l : List (Nat × D)} : ∀ {l' : List (Nat × D)}, Slots l l' → ∀ t, V.look t l' = V.look t l ∨ V.look t l' = .junk
 | [], _, t => .inr rfl
 | (i, d) :: r, h, t => by
  rw [look_cons]
  by_cases e : i = t
  ·subst e; rw [if_pos rfl]; exact .inl h.1.symm
  rw [if_neg e]; exact h.2.look t

theorem Wk.slots {n : Nat} {l l' : List (Nat × D)} {S : List Blk} (h : Slots l l') : Wk ⟨n, l, S⟩ ⟨n, l', S⟩ := fun C a w hs =>
 ⟨hs.defers, hs.size, fun t ht => by
  rcases h.look t with e | e
  ·simp only [e]; exact hs.env t ht
  simp only [e]; exact .junk _, hs.own, hs.fr, hs.ex, hs.tab⟩

theorem Wk.as_ {x : St} {n : Nat} {l' : List (Nat × D)} {S' : List Blk} (hn : x.n = n) (hS : x.S = S') (h : Slots x.env l') : Wk x ⟨n, l', S'⟩ := by
 obtain ⟨n0, l0, S0⟩ := x
 simp only at hn hS h
 subst hn hS
 exact Wk.slots h

theorem Wk.asS {x : St} {n : Nat} {l' : List (Nat × D)} {S' : List Blk} (hn : x.n = n) (hS : S'.Sublist x.S) (h : Slots x.env l') : Wk x ⟨n, l', S'⟩ := by
 obtain ⟨n0, l0, S0⟩ := x
 simp only at hn hS h
 subst hn
 exact (Wk.drop n0 l0 S0 S' hS).trans (Wk.slots h)

theorem wants_T {ops : Array Oper} {x : St} {o : Oper} {g t : Nat} {want b : Bool} (h : o.guard = some (g, want)) (hg : (ops[g]?).bind (·.dst) = some t) (ht : Nat.blt t x.n = true) (hb : look t x.env = .v (.bool b)) (hw : b = want) : Wants ops x o true := by
 have := wants_if h hg (Nat.le_of_ble_eq_true ht) hb
 rw [hw] at this
 simpa using this
theorem wants_F {ops : Array Oper} {x : St} {o : Oper} {g t : Nat} {want b : Bool} (h : o.guard = some (g, want)) (hg : (ops[g]?).bind (·.dst) = some t) (ht : Nat.blt t x.n = true) (hb : look t x.env = .v (.bool b)) (hw : b = !want) : Wants ops x o false := by
 have := wants_if h hg (Nat.le_of_ble_eq_true ht) hb
 rw [hw] at this
 cases want <;> simpa using this
theorem wants_J {ops : Array Oper} {x : St} {o : Oper} {g t : Nat} {want b : Bool} (h : o.guard = some (g, want)) (hg : (ops[g]?).bind (·.dst) = some t) (ht : Nat.blt t x.n = true) (hb : look t x.env = .v (.tuple #[])) : Wants ops x o false := fun C a w hs => by
 have hv := hs.env t (Nat.le_of_ble_eq_true ht)
 rw [hb] at hv
 have hv := hv.v_eq
 have hsz := hs.size
 have ht' : t < x.n := Nat.le_of_ble_eq_true ht
 have : a.tmps[t]? = some (.tuple #[]) := by
  rw [Array.getD_eq_getD_getElem?, Array.getElem?_eq_getElem (by omega)] at hv
  rw [Array.getElem?_eq_getElem (by omega)]
  simpa using hv
 simp only [Region.wanted, h, yielded, hg, Option.bind_some, this]
 cases want <;> rfl

theorem OD.nil (h : Q .normal x) : OD P C ops [] x Q := fun a w hs => .inl ⟨x, hs, h⟩

theorem OD.eff {W : List Nat} {post : St → Prop} (hw : Wants ops x o true) (h : Eff P C.G x o W post) (k : ∀ y, post y → OD P C ops l y Q) : OD P C ops (o :: l) x Q := fun a w hs => by
 unfold wpList
 rw [if_pos (hw C a w hs)]
 exact .inl (h C a w _ _ rfl hs fun y a' w' hp hs' _ _ => k y hp a' w' hs')

theorem OD.still {kd : Rd} {d : D} {t : Nat} (hw : Wants ops x o true) (hd : o.dst = some t) (h : Still P C.G x o kd d) (k : OD P C ops l (x.put t d) Q) : OD P C ops (o :: l) x Q :=
 OD.eff hw (h.eff hd) fun y hy => by subst hy; exact k

theorem OD.skip {t : Nat} (hw : Wants ops x o false) (hd : o.dst = some t) (k : OD P C ops l (x.put t (.v (.tuple #[]))) Q) : OD P C ops (o :: l) x Q := fun a w hs => by
 unfold wpList
 rw [if_neg (by rw [hw C a w hs]; simp), hd]
 exact k _ _ (hs.put (.v _))

theorem OD.wk (h : Wk x y) (k : OD P C ops l y Q) : OD P C ops l x Q := fun a w hs => k a w (h C a w hs)

/-! ### Code -/

theorem CD.wk {c : Code} (h : Wk x y) (k : CD P C c y Q) : CD P C c x Q := fun a w hs => k a w (h C a w hs)

theorem CD.mono {c : Code} {Q' : Exit → St → Prop} (h : CD P C c x Q) (k : ∀ e y, Q e y → Q' e y) : CD P C c x Q' := fun a w hs =>
 wp_mono (h a w hs) fun e a' w' h => h.imp (fun ⟨y, h1, h2⟩ => ⟨y, h1, k e y h2⟩) id

theorem CD.skip (h : Q .normal x) : CD P C .skip x Q := fun a w hs => wp_skip (.inl ⟨x, hs, h⟩)
theorem CD.ret (h : Q .ret x) : CD P C .ret x Q := fun a w hs => wp_ret (.inl ⟨x, hs, h⟩)
theorem CD.exit {id : Nat} (h : Q (.exit id) x) : CD P C (.exit id) x Q := fun a w hs => wp_exit (.inl ⟨x, hs, h⟩)
def Then (P : Program) (C : Ctx) (c : Code) (Q : Exit → St → Prop) : Exit → St → Prop
 | .normal, y => CD P C c y Q
 | e, y => Q e y

theorem CD.seq {c d : Code} (h : CD P C c x (Then P C d Q)) : CD P C (.seq c d) x Q := fun a w hs =>
 wp_seq (wp_mono (h a w hs) fun e a' w' h => by
  rcases h with ⟨y, h1, h2⟩ | ⟨rfl, h⟩
  ·cases e <;> first | exact h2 a' w' h1 | exact .inl ⟨y, h1, h2⟩
  exact .inr ⟨rfl, h⟩)

theorem CD.region {id : Nat} {l : List Oper} (h : OD P C l.toArray l x Q) : CD P C (.region id l.toArray false) x Q := fun a w hs => wp_region_lit (h a w hs)

theorem CD.cond {c : Operand} {d e : Code} {b : Bool} (hc : opd x c = .v (.bool b)) (ht : b = true → CD P C d x Q) (hf : b = false → CD P C e x Q) : CD P C (.cond c d e) x Q := fun a w hs =>
 wp_cond_split (hs.flat hc) (fun h => ht h a w hs) (fun h => hf h a w hs)

theorem CD.condT {c : Operand} {d e : Code} {b : Bool} (hc : opd x c = .v (.bool b)) (hb : b = true) (ht : CD P C d x Q) : CD P C (.cond c d e) x Q := fun a w hs =>
 wp_cond_true (by rw [hs.flat hc, hb]) (ht a w hs)

theorem CD.condF {c : Operand} {d e : Code} {b : Bool} (hc : opd x c = .v (.bool b)) (hb : b = false) (hf : CD P C e x Q) : CD P C (.cond c d e) x Q := fun a w hs =>
 wp_cond_false (by rw [hs.flat hc, hb]) (hf a w hs)

def Cut (Inv : St → Prop) (Q : Exit → St → Prop) : Exit → St → Prop
 | .normal, y => ∃ z, Wk y z ∧ Inv z
 | e, y => Q e y

theorem CD.cut {c d : Code} (Inv : St → Prop) (h1 : CD P C c x (Cut Inv Q)) (h2 : ∀ z, Inv z → CD P C d z Q) : CD P C (.seq c d) x Q :=
 CD.seq (CD.mono h1 fun e y h => by cases e <;> first | (obtain ⟨z, hw, hz⟩ := h; exact CD.wk hw (h2 z hz)) | exact h)

def InBlock (id : Nat) (Q : Exit → St → Prop) : Exit → St → Prop
 | .exit id', y => bif Nat.beq id' id then Q .normal y else Q (.exit id') y
 | e, y => Q e y

theorem CD.block {id : Nat} {c : Code} (h : CD P C c x (InBlock id Q)) : CD P C (.block id c) x Q := fun a w hs =>
 wp_block (wp_mono (h a w hs) fun e a' w' h => by
  rcases h with ⟨y, h1, h2⟩ | ⟨rfl, h⟩
  case inr => exact .inr ⟨rfl, h⟩
  cases e with
  | exit id' =>
   simp only [InBlock] at h2
   simp only [Exit.inBlock]
   by_cases he : id' = id
   ·subst he; rw [if_pos rfl]; simp at h2; exact .inl ⟨y, h1, h2⟩
   rw [if_neg he]
   have : Nat.beq id' id = false := by
    cases h : Nat.beq id' id with
    | false => rfl
    | true => exact absurd (Nat.eq_of_beq_eq_true h) he
   rw [this] at h2; exact .inl ⟨y, h1, h2⟩
  | _ => exact .inl ⟨y, h1, h2⟩)

theorem least (p : Nat → Prop) (h : ∃ n, p n) : ∃ n, p n ∧ ∀ m, p m → n ≤ m := by
 obtain ⟨n, hn⟩ := h
 induction n using Nat.strongRecOn with
 | _ n ih =>
  by_cases hq : ∃ m, m < n ∧ p m
  ·obtain ⟨m, hm, hp⟩ := hq; exact ih m hm hp
  exact ⟨n, hn, fun m hm => Nat.le_of_not_lt fun hlt => hq ⟨m, hlt, hm⟩⟩

def Round {ι : Type} (I : ι → St → Prop) (μ : ι → Nat) (i : ι) (Q : Exit → St → Prop) : Exit → St → Prop
 | .normal, y => ∃ j z, μ j < μ i ∧ Wk y z ∧ I j z
 | e, y => Q e y

open Classical in
theorem CD.loop {ι : Type} {c : Code} (I : ι → St → Prop) (μ : ι → Nat) (i : ι) (h0 : I i x) (round : ∀ i y, I i y → CD P C c y (Round I μ i Q)) : CD P C (.loop c) x Q := fun a w hs => by
 let p : Act → World → Nat → Prop := fun a w n => ∃ i y, μ i = n ∧ I i y ∧ Sim C y a w
 let m : Act → World → Nat := fun a w => if h : ∃ n, p a w n then Classical.choose (least _ h) else 0
 refine wp_loop (fun a w => ∃ n, p a w n) m ⟨_, i, x, rfl, h0, hs⟩ fun a w hI => ?_
 have hm : m a w = Classical.choose (least _ hI) := dif_pos hI
 obtain ⟨⟨i, y, h1, h2, h3⟩, _⟩ := Classical.choose_spec (least _ hI)
 rw [← hm] at h1
 refine wp_mono (round i y h2 a w h3) fun e a' w' h => ?_
 rcases h with ⟨z, q1, q2⟩ | ⟨rfl, h⟩
 case inr => exact .inr ⟨rfl, h⟩
 cases e with
 | normal =>
  obtain ⟨j, z', r1, r2, r3⟩ := q2
  have hp : p a' w' (μ j) := ⟨j, z', rfl, r3, r2 C a' w' q1⟩
  have hI' : ∃ n, p a' w' n := ⟨_, hp⟩
  have hm' : m a' w' = Classical.choose (least _ hI') := dif_pos hI'
  refine ⟨hI', ?_⟩
  have := (Classical.choose_spec (least _ hI')).2 _ hp
  rw [hm']
  omega
 | _ => exact .inl ⟨z, q1, q2⟩

/-! ### Results and bodies -/

def rsem (tmps : Array Value) : ResultVar → Sem Value
 | .tmp t => pure (tmps.getD t undef)
 | .cell a t => do loadVar t (← asAddr (tmps.getD a undef))

theorem results_eq (fn : Func) (tmps : Array Value) : results fn tmps = (do let vs ← fn.results.mapM (rsem tmps); pure (if h : vs.size = 1 then vs[0] else .tuple vs)) := rfl

def Res (P : Program) (y : St) (rv : ResultVar) (d : D) : Prop :=
 ∀ C a w, Sim C y a w → ∃ v, Rep w (live C.X y.S) d v ∧ (rsem a.tmps rv).run P w = .ok v w

theorem res_tmp {t : Nat} {d : D} (ht : t < y.n) (hd : look t y.env = d) : Res P y (.tmp t) d := fun C a w h => ⟨_, hd ▸ h.env t ht, rfl⟩

theorem res_cell {c t k b : Nat} {B : Blk} {d : D} (hc : c < y.n) (hd : look c y.env = .v (.pointer (some ⟨b, 0, none⟩))) (hk : y.S[k]? = some B) (hb : B.b = b) (ha : ∀ w, (isAgg t).run P w = .ok false w) (hcs : B.cs = [d]) (hne : isMap B.e = false := by rfl) : Res P y (.cell c t) d := fun C a w h => by
 subst hb
 have he := h.env c hc
 rw [hd] at he
 obtain ⟨_, cur, h1, h2, h3, h4⟩ := h.blk hk
 rw [ob_cells hne] at h1
 obtain ⟨u, hu, hr⟩ := h4 0 (by simp [hcs])
 refine ⟨u, by simpa [hcs] using hr, ?_⟩
 simp only [rsem, he.v_eq, asAddr, Sem.run_bind, Sem.run_pure, Result.andThen_ok]
 have := run_load1 (P := P) (t := t) (w := w) ha (cell_blk h1 hu)
 simpa [Instr.loadAt, Instr.sureAddr] using this

theorem res_cells {c t k b n : Nat} {B : Blk} {ds : List D} (hc : c < y.n) (hd : look c y.env = .v (.pointer (some ⟨b, 0, none⟩))) (hk : y.S[k]? = some B) (hb : B.b = b) (ha : ∀ w, (isAgg t).run P w = .ok true w) (hn : ∀ w, (sizeOf t).run P w = .ok n w) (hcs : B.cs = ds) (hl : ds.length = n) (hne : isMap B.e = false := by rfl) : Res P y (.cell c t) (.agg ds) := fun C a w h => by
 subst hb hcs
 have he := h.env c hc
 rw [hd] at he
 obtain ⟨_, cur, h1, h2, h3, h4⟩ := h.blk hk
 rw [ob_cells hne] at h1
 refine ⟨.agg ((List.range n).map fun j => cur.getD j undef).toArray, .agg _ _ (by simp [hl]) (fun i q1 q2 => ?_), ?_⟩
 ·obtain ⟨u, hu, hr⟩ := h4 i q1
  simp only [List.getElem_map, List.getElem_range, Array.getD_eq_getD_getElem?, hu, Option.getD_some]
  exact hr
 simp only [rsem, he.v_eq, asAddr, Sem.run_bind, Sem.run_pure, Result.andThen_ok]
 have := run_loadN (P := P) (t := t) (w := w) (b := B.b) (o' := 0) (vs := (List.range n).map fun j => cur.getD j undef) ha hn (by simp) (fun j hj => by
  simp only [List.length_map, List.length_range] at hj
  obtain ⟨u, hu, _⟩ := h4 j (by omega)
  simp only [List.getElem_map, List.getElem_range, Array.getD_eq_getD_getElem?, hu, Option.getD_some, Nat.zero_add]
  exact cell_blk h1 hu)
 simpa [Instr.loadAt, Instr.sureAddr] using this

def Ret (P : Program) (fn : Func) (y : St) (r : D) : Prop := ∀ C a w, Sim C y a w → ∃ v, Rep w (live C.X y.S) r v ∧ (results fn a.tmps).run P w = .ok v w

theorem ret_none {fn : Func} (hr : fn.results = #[]) : Ret P fn y (.tup []) := fun C a w h =>
 ⟨.tuple #[], .tup [] [] rfl (fun i h1 _ => by simp at h1), by unfold results; simp [hr]⟩

theorem ret_one {fn : Func} {rv : ResultVar} {d : D} (hr : fn.results = #[rv]) (h : Res P y rv d) : Ret P fn y d := fun C a w hs => by
 obtain ⟨v, h1, h2⟩ := h C a w hs
 refine ⟨v, h1, ?_⟩
 rw [results_eq, hr]
 simp [h2]

theorem rep_tup {w : World} {L : Nat → Prop} {ds : List D} {vs : List Value} (h : RepL w L ds vs) : Rep w L (.tup ds) (.tuple vs.toArray) := .tup ds vs h.1 h.2

theorem RepL.cons {w : World} {L : Nat → Prop} {d : D} {v : Value} {ds : List D} {vs : List Value} (h : Rep w L d v) (hs : RepL w L ds vs) : RepL w L (d :: ds) (v :: vs) :=
 ⟨by simp [hs.1], fun i h1 h2 => by
  cases i with
  | zero => exact h
  | succ i => exact hs.2 i _ _⟩

theorem RepL.nil (w : World) (L : Nat → Prop) : RepL w L [] [] := ⟨rfl, fun i h => by simp at h⟩

theorem ret_two {fn : Func} {r1 r2 : ResultVar} {d1 d2 : D} (hr : fn.results = #[r1, r2]) (h1 : Res P y r1 d1) (h2 : Res P y r2 d2) : Ret P fn y (.tup [d1, d2]) := fun C a w hs => by
 obtain ⟨v1, a1, b1⟩ := h1 C a w hs
 obtain ⟨v2, a2, b2⟩ := h2 C a w hs
 refine ⟨_, rep_tup (.cons a1 (.cons a2 (.nil _ _))), ?_⟩
 rw [results_eq, hr]
 simp [b1, b2]

theorem ret_three {fn : Func} {r1 r2 r3 : ResultVar} {d1 d2 d3 : D} (hr : fn.results = #[r1, r2, r3]) (h1 : Res P y r1 d1) (h2 : Res P y r2 d2) (h3 : Res P y r3 d3) : Ret P fn y (.tup [d1, d2, d3]) := fun C a w hs => by
 obtain ⟨v1, a1, b1⟩ := h1 C a w hs
 obtain ⟨v2, a2, b2⟩ := h2 C a w hs
 obtain ⟨v3, a3, b3⟩ := h3 C a w hs
 refine ⟨_, rep_tup (.cons a1 (.cons a2 (.cons a3 (.nil _ _)))), ?_⟩
 rw [results_eq, hr]
 simp [b1, b2, b3]

def Body (P : Program) (fn : Func) (post : D → List Blk → Prop) (e : Exit) (y : St) : Prop :=
 (e = .normal ∨ e = .ret) ∧ ∃ r S', S'.Sublist y.S ∧ Ret P fn y r ∧ post r S'

def envOf : Nat → List D → List (Nat × D)
 | _, [] => []
 | i, d :: r => (i, d) :: envOf (i + 1) r

theorem look_envOf : ∀ (ds : List D) (i t : Nat), look t (envOf i ds) = if i ≤ t then ds.getD (t - i) .junk else .junk
 | [], i, t => by simp [envOf, look]
 | d :: r, i, t => by
  rw [envOf, look_cons, look_envOf r (i + 1) t]
  by_cases h : i = t
  ·subst h; simp
  rw [if_neg h]
  by_cases h2 : i ≤ t
  ·rw [if_pos h2, if_pos (by omega), show t - i = (t - (i + 1)) + 1 from by omega]; simp
  rw [if_neg h2, if_neg (by omega)]

theorem VC.body {G : List (Nat × List Value)} {f : FuncId} {fn : Func} {c : Code} {n : Nat} {args : List D} {S : List Blk} {post : D → List Blk → Prop} (hf : P.funcs[f]? = some fn) (hb : fn.body = some c) (hn : fn.ntmps = n) (hl : args.length ≤ n)
  (h : ∀ X w0 S0, CD P ⟨X, w0, S0, G, [], fun _ _ => False⟩ c ⟨n, envOf 0 args, S⟩ (Body P fn post)) : VC P G f args S post := fun X w vs hp => by
 have hvl : vs.length = args.length := hp.args.1
 let C : Ctx := ⟨X, w, bks S, G, [], fun _ _ => False⟩
 have hsim : Sim C ⟨n, envOf 0 args, S⟩ { tmps := vs.toArray ++ Array.replicate (fn.ntmps - vs.toArray.size) undef, defers := [] } w := by
  refine ⟨rfl, by simp [hn]; omega, fun t ht => ?_, hp.own, Fr.refl _ _, hp.ex, hp.tab⟩
  simp only [look_envOf, Nat.zero_le, if_true, Nat.sub_zero]
  by_cases hlt : t < args.length
  ·have e1 : args.getD t .junk = args[t] := by simp [List.getD, hlt]
   have e2 : (vs.toArray ++ Array.replicate (fn.ntmps - vs.toArray.size) undef).getD t undef = vs[t]'(by omega) := by
    rw [Array.getD_eq_getD_getElem?, Array.getElem?_append_left (by simp; omega)]
    simp [show t < vs.length by omega]
   rw [e1, e2]
   exact hp.args.2 t hlt (by omega)
  have e1 : args.getD t .junk = .junk := by simp [List.getD, List.getElem?_eq_none (show args.length ≤ t by omega)]
  rw [e1]; exact .junk _
 refine calls_of_wp hf hb (wp_mono (h _ _ _ _ _ hsim) fun e a w' h => ?_)
 rcases h with ⟨y, h1, h2, r, S', h3, h4, h5⟩ | ⟨_, h⟩
 case inr => exact h.elim
 obtain ⟨v, q1, q2⟩ := h4 C a w' h1
 have hsub : (bks S').Sublist (bks y.S) := List.Sublist.map _ h3
 have key : a.defers = [] ∧ ∃ v, (results fn a.tmps).run P w' = .ok v w' ∧ ∃ v' r S', Ending.returned v = .returned v' ∧ post r S' ∧ Own w' (live X S') S' ∧ Rep w' (live X S') r v' ∧ Fr w (bks S) w' (bks S') :=
  ⟨h1.defers, v, q2, v, r, S', rfl, h5, h1.own.sub h3, q1.mono fun b _ hn => ⟨rfl, fun hl => hn (hl.imp id fun q => hsub.subset q)⟩,
   ⟨h1.fr.os, h1.fr.tape, h1.fr.output, h1.fr.size, fun b hb' hn => ⟨(h1.fr.block b hb' hn).1, fun q => (h1.fr.block b hb' hn).2 (hsub.subset q)⟩⟩⟩
 rcases h2 with rfl | rfl <;> exact key

end Go.Proofs.YtjgekbmahhhokaaDoor.V

namespace Go.Proofs.YtjgekbmahhhokaaDoor.V
open Go.RowKit
set_option linter.unusedVariables false
set_option linter.unusedSimpArgs false

def Stay (w1 : World) (S1 T : List Nat) (w : World) : Prop := (∀ b, b < w1.heap.size → b ∉ S1 → w.heap[b]? = w1.heap[b]?) ∧ ∀ b ∈ T, w.heap[b]? = w1.heap[b]?

def AD (P : Program) (C : Ctx) (ops : Array Oper) (S1 T : List Nat) (fuel : Nat) (ld : Array Bool) (x : St) (Q : Exit → St → Prop) : Prop :=
 ∀ w1 a w, Sim C x a w → (∀ b ∈ T, b ∈ S1) → (∀ b ∈ S1, b < w1.heap.size) → Fr w1 S1 w (bks x.S) → Stay w1 S1 T w → wpAnyH P .any ops (LQ C Q) (Stay w1 S1 T) fuel ld a w

def AD0 (P : Program) (C : Ctx) (ops : Array Oper) (S1 T : List Nat) (fuel : Nat) (ld : Array Bool) (x : St) (Q : Exit → St → Prop) : Prop :=
 ∀ a w, Sim C x a w → bks x.S = S1 → (∀ b ∈ T, b ∈ S1) → wpAnyH P .any ops (LQ C Q) (Stay w S1 T) fuel ld a w

def NP (Q : Exit → St → Prop) : Prop := ∀ c y t, Q (.panic c) y → Q (.panic c) (y.put t .junk)

variable {P : Program} {C : Ctx} {Q : Exit → St → Prop} {x y : St} {ops : Array Oper} {l : List Oper} {o : Oper} {S1 T : List Nat}

theorem NP.then {c : Code} (h : NP Q) : NP (Then P C c Q) := fun ch y t hq => h ch y t hq
theorem NP.cut {Inv : St → Prop} (h : NP Q) : NP (Cut Inv Q) := fun ch y t hq => h ch y t hq
theorem NP.inBlock {id : Nat} (h : NP Q) : NP (InBlock id Q) := fun ch y t hq => h ch y t hq
theorem NP.round {ι : Type} {I : ι → St → Prop} {μ : ι → Nat} {i : ι} (h : NP Q) : NP (Round I μ i Q) := fun ch y t hq => h ch y t hq
theorem NP.body {fn : Func} {post : D → List Blk → Prop} : NP (Body P fn post) := fun ch y t hq => by rcases hq.1 with h | h <;> cases h

theorem Stay.refl (w1 : World) (S1 T : List Nat) : Stay w1 S1 T w1 := ⟨fun _ _ _ => rfl, fun _ _ => rfl⟩

theorem AD0.later {fuel : Nat} {ld : Array Bool} (hS : bks x.S = S1) (h : AD P C ops S1 T fuel ld x Q) : AD0 P C ops S1 T fuel ld x Q := fun a w hs _ hT =>
 h w a w hs hT (fun b hb => by
  rw [← hS] at hb
  obtain ⟨B, hB, rfl⟩ := List.mem_map.1 hb
  exact (hs.own.at_ B hB).1) (hS ▸ Fr.refl _ _) (Stay.refl _ _ _)

def Safe (x : St) (T : List Nat) : Rd → Prop
 | .none => True
 | .imm => True
 | .blk k => ∃ B, x.S[k]? = some B ∧ B.b ∈ T

theorem hQ_of (h : NP Q) (d : Option Nat) (v : Value) : ∀ c a w, LQ C Q (.panic c) (a.put d v) w → LQ C Q (.panic c) a w := fun c a w hq => by
 rcases hq with ⟨y, h1, h2⟩ | ⟨h2, _⟩
 ·cases d with
  | none => exact .inl ⟨y, h1, h2⟩
  | some t =>
   refine .inl ⟨y.put t .junk, ⟨h1.defers, by have h9 := h1.size; simp only [Act.put, Array.size_setIfInBounds] at h9; exact h9, fun q hq => ?_, h1.own, h1.fr, h1.ex, h1.tab⟩, h c y t h2⟩
   have h3 := h1.env q hq
   simp only [St.put, look_cons]
   by_cases e : t = q
   ·rw [if_pos e]; exact .junk _
   rw [if_neg e]
   have : (a.put (some t) v).tmps.getD q undef = a.tmps.getD q undef := by simp [Act.put, Array.getD_eq_getD_getElem?, Array.getElem?_setIfInBounds, e]
   rw [this] at h3; exact h3
 cases h2

theorem AD0.take {fuel i t : Nat} {ld : Array Bool} {k : Rd} {d : D} (hi : ops[i]? = some o) (hs : Region.noSelect ops = true) (hf : Region.free .any ops ld i = true) (hr : (Region.ready .any ops ld).contains i = true) (hp : NP Q)
  (hw : Wants ops x o true) (hd : o.dst = some t) (h : Still P C.G x o k d) (hk : Safe x T k) (K : AD0 P C ops S1 T fuel (ld.setIfInBounds i true) (x.put t d) Q) : AD0 P C ops S1 T (fuel + 1) ld x Q := fun a w hsim hS hT => by
 obtain ⟨v, h1, h2⟩ := h C a w rfl hsim
 refine wpAnyH_take hi hs hf hr (hQ_of hp _ v) (.inl ⟨hw C a w hsim, fun w' hw' => h2 w' ?_⟩) (Stay.refl _ _ _) ?_
 ·cases k with
  | none => trivial
  | imm => exact fun b hb hn => hw'.1 b hb (fun hm => hn (.inr (hS ▸ hm)))
  | blk k =>
   obtain ⟨B, hB, hm⟩ := hk
   intro B' hB'
   rw [hB] at hB'
   obtain rfl := Option.some.inj hB'
   exact hw'.2 _ hm
 rw [hd]
 exact K _ _ (hsim.put h1) hS hT

theorem AD0.takeSkip {fuel i t : Nat} {ld : Array Bool} (hi : ops[i]? = some o) (hs : Region.noSelect ops = true) (hf : Region.free .any ops ld i = true) (hr : (Region.ready .any ops ld).contains i = true) (hp : NP Q)
  (hw : Wants ops x o false) (hd : o.dst = some t) (K : AD0 P C ops S1 T fuel (ld.setIfInBounds i true) (x.put t (.v (.tuple #[]))) Q) : AD0 P C ops S1 T (fuel + 1) ld x Q := fun a w hsim hS hT => by
 refine wpAnyH_take (v := undef) hi hs hf hr (hQ_of hp _ _) (.inr ⟨hw C a w hsim, rfl⟩) (Stay.refl _ _ _) ?_
 rw [hd]
 exact K _ _ (hsim.put (.v _)) hS hT

theorem AD.take {fuel i t : Nat} {ld : Array Bool} {k : Rd} {d : D} (hi : ops[i]? = some o) (hs : Region.noSelect ops = true) (hf : Region.free .any ops ld i = true) (hr : (Region.ready .any ops ld).contains i = true) (hp : NP Q)
  (hw : Wants ops x o true) (hd : o.dst = some t) (h : Still P C.G x o k d) (hk : Safe x T k) (hni : k ≠ .imm) (K : AD P C ops S1 T fuel (ld.setIfInBounds i true) (x.put t d) Q) : AD P C ops S1 T (fuel + 1) ld x Q := fun w1 a w hsim hT hlt hfr hst => by
 obtain ⟨v, h1, h2⟩ := h C a w rfl hsim
 refine wpAnyH_take hi hs hf hr (hQ_of hp _ v) (.inl ⟨hw C a w hsim, fun w' hw' => h2 w' ?_⟩) hst ?_
 ·cases k with
  | none => trivial
  | imm => exact absurd rfl hni
  | blk k =>
   obtain ⟨B, hB, hm⟩ := hk
   intro B' hB'
   rw [hB] at hB'
   obtain rfl := Option.some.inj hB'
   exact (hw'.2 _ hm).trans (hst.2 _ hm).symm
 rw [hd]
 exact K _ _ _ (hsim.put h1) hT hlt hfr hst

theorem AD.takeSkip {fuel i t : Nat} {ld : Array Bool} (hi : ops[i]? = some o) (hs : Region.noSelect ops = true) (hf : Region.free .any ops ld i = true) (hr : (Region.ready .any ops ld).contains i = true) (hp : NP Q)
  (hw : Wants ops x o false) (hd : o.dst = some t) (K : AD P C ops S1 T fuel (ld.setIfInBounds i true) (x.put t (.v (.tuple #[]))) Q) : AD P C ops S1 T (fuel + 1) ld x Q := fun w1 a w hsim hT hlt hfr hst => by
 refine wpAnyH_take (v := undef) hi hs hf hr (hQ_of hp _ _) (.inr ⟨hw C a w hsim, rfl⟩) hst ?_
 rw [hd]
 exact K _ _ _ (hsim.put (.v _)) hT hlt hfr hst

def AStep (P : Program) (C : Ctx) (ops : Array Oper) (S1 T : List Nat) (fuel : Nat) (ld : Array Bool) (x : St) (Q : Exit → St → Prop) (i : Nat) : Prop :=
 ∀ w1 a w, Sim C x a w → (∀ b ∈ T, b ∈ S1) → (∀ b ∈ S1, b < w1.heap.size) → Fr w1 S1 w (bks x.S) → Stay w1 S1 T w →
  wpOp P ops (LQ C Q) i (fun a' w' => Stay w1 S1 T w' ∧ wpAnyH P .any ops (LQ C Q) (Stay w1 S1 T) fuel (ld.setIfInBounds i true) a' w') a w

theorem AD.all {fuel : Nat} {ld : Array Bool} {rs : List Nat} (hr : Region.ready .any ops ld = rs) (hne : rs ≠ []) (h : ∀ i ∈ rs, AStep P C ops S1 T fuel ld x Q i) : AD P C ops S1 T (fuel + 1) ld x Q := fun w1 a w hsim hT hlt hfr hst =>
 wpAnyH_all hr hne fun i hi => h i hi w1 a w hsim hT hlt hfr hst

theorem AD.one {fuel i : Nat} {ld : Array Bool} (hr : Region.ready .any ops ld = [i]) (h : AStep P C ops S1 T fuel ld x Q i) : AD P C ops S1 T (fuel + 1) ld x Q :=
 AD.all hr (by simp) fun j hj => by
  have : j = i := by simpa using hj
  subst this; exact h

theorem AD.two {fuel i j : Nat} {ld : Array Bool} (hr : Region.ready .any ops ld = [i, j]) (h : AStep P C ops S1 T fuel ld x Q i) (h' : AStep P C ops S1 T fuel ld x Q j) : AD P C ops S1 T (fuel + 1) ld x Q :=
 AD.all hr (by simp) fun k hk => by
  simp only [List.mem_cons, List.not_mem_nil, or_false] at hk
  rcases hk with rfl | rfl
  ·exact h
  exact h'

theorem AD.three {fuel i j k : Nat} {ld : Array Bool} (hr : Region.ready .any ops ld = [i, j, k]) (h : AStep P C ops S1 T fuel ld x Q i) (h' : AStep P C ops S1 T fuel ld x Q j) (h'' : AStep P C ops S1 T fuel ld x Q k) : AD P C ops S1 T (fuel + 1) ld x Q :=
 AD.all hr (by simp) fun m hm => by
  simp only [List.mem_cons, List.not_mem_nil, or_false] at hm
  rcases hm with rfl | rfl | rfl
  ·exact h
  ·exact h'
  exact h''

theorem AD.done {fuel : Nat} {ld : Array Bool} (hr : Region.ready .any ops ld = []) (h : Q .normal x) : AD P C ops S1 T fuel ld x Q := fun w1 a w hsim hT hlt hfr hst => wpAnyH_done hr (.inl ⟨x, hsim, h⟩) _
theorem AD0.done {fuel : Nat} {ld : Array Bool} (hr : Region.ready .any ops ld = []) (h : Q .normal x) : AD0 P C ops S1 T fuel ld x Q := fun a w hsim _ _ => wpAnyH_done hr (.inl ⟨x, hsim, h⟩) _

theorem AStep.eff {fuel i : Nat} {ld : Array Bool} {W : List Nat} {post : St → Prop} (hi : ops[i]? = some o) (hw : Wants ops x o true) (h : Eff P C.G x o W post) (hW : ∀ C a w, Sim C x a w → ∀ b ∈ T, b ∉ W) (hWx : ∀ b ∈ W, b ∈ bks x.S)
  (k : ∀ y, post y → AD P C ops S1 T fuel (ld.setIfInBounds i true) y Q) : AStep P C ops S1 T fuel ld x Q i := fun w1 a w hsim hT hlt hfr hst => by
 unfold wpOp
 simp only [hi, hw C a w hsim, if_true]
 refine .inl (h C a w _ _ rfl hsim fun y a' w' hp hs' hc hf => ?_)
 have hfr' : Fr w1 S1 w' (bks y.S) := ⟨hf.os.trans hfr.os, hf.tape.trans hfr.tape, hf.output.trans hfr.output, Nat.le_trans hfr.size hf.size, fun b hb hn => by
  obtain ⟨q1, q2⟩ := hfr.block b hb hn
  obtain ⟨q3, q4⟩ := hf.block b (Nat.lt_of_lt_of_le hb hfr.size) q2
  exact ⟨q3.trans q1, q4⟩⟩
 have hst' : Stay w1 S1 T w' := ⟨fun b hb hn => (hfr'.block b hb hn).1, fun b hb => by
  have hb1 := Nat.lt_of_lt_of_le (hlt b (hT b hb)) hfr.size
  exact (hc.2 b hb1 (hW C a w hsim b hb)).trans (hst.2 b hb)⟩
 exact ⟨hst', k y hp w1 a' w' hs' hT hlt hfr' hst'⟩

theorem AStep.still {fuel i t : Nat} {ld : Array Bool} {kd : Rd} {d : D} (hi : ops[i]? = some o) (hw : Wants ops x o true) (hd : o.dst = some t) (h : Still P C.G x o kd d) (k : AD P C ops S1 T fuel (ld.setIfInBounds i true) (x.put t d) Q) : AStep P C ops S1 T fuel ld x Q i :=
 AStep.eff hi hw (h.eff hd) (fun _ _ _ _ b _ hb => by simp at hb) (fun b hb => by simp at hb) fun y hy => by subst hy; exact k

theorem AStep.skip {fuel i t : Nat} {ld : Array Bool} (hi : ops[i]? = some o) (hw : Wants ops x o false) (hd : o.dst = some t) (k : AD P C ops S1 T fuel (ld.setIfInBounds i true) (x.put t (.v (.tuple #[]))) Q) : AStep P C ops S1 T fuel ld x Q i := fun w1 a w hsim hT hlt hfr hst => by
 unfold wpOp
 simp only [hi, hw C a w hsim, hd]
 exact ⟨hst, k w1 _ w (hsim.put (.v _)) hT hlt hfr hst⟩

theorem AD.wk {fuel : Nat} {ld : Array Bool} (h : Wk x y) (hb : bks y.S = bks x.S) (k : AD P C ops S1 T fuel ld y Q) : AD P C ops S1 T fuel ld x Q := fun w1 a w hsim hT hlt hfr hst => k w1 a w (h C a w hsim) hT hlt (hb ▸ hfr) hst

theorem AD.wkSub {fuel : Nat} {ld : Array Bool} (h : Wk x y) (hb : ∀ b ∈ bks y.S, b ∈ bks x.S) (k : AD P C ops S1 T fuel ld y Q) : AD P C ops S1 T fuel ld x Q := fun w1 a w hsim hT hlt hfr hst =>
 k w1 a w (h C a w hsim) hT hlt ⟨hfr.os, hfr.tape, hfr.output, hfr.size, fun b h1 h2 => ⟨(hfr.block b h1 h2).1, fun h3 => (hfr.block b h1 h2).2 (hb b h3)⟩⟩ hst

theorem CD.draw {id : Nat} {l : List Oper} (T : List Nat) (hm : P.follows .mixedOrders = true) (hT : ∀ b ∈ T, b ∈ bks x.S) (h : AD0 P C l.toArray (bks x.S) T l.toArray.size (Array.replicate l.toArray.size false) x Q) : CD P C (.region id l.toArray true) x Q := fun a w hs =>
 wp_region_held (S := Stay { w with drawn := w.drawn + 1 } (bks x.S) T) hm (h a _ ⟨hs.defers, hs.size, fun t ht => (hs.env t ht).mono fun b _ hn => ⟨rfl, hn⟩, ⟨fun B hB => by
  obtain ⟨r0, cur, r1, r2, r3, r4⟩ := hs.own.at_ B hB
  exact ⟨r0, cur, r1, r2, r3, fun i hi => by
   obtain ⟨u, hu, hq⟩ := r4 i hi
   exact ⟨u, hu, hq.mono fun b _ hn => ⟨rfl, hn⟩⟩⟩, hs.own.apart⟩, ⟨hs.fr.os, hs.fr.tape, hs.fr.output, hs.fr.size, hs.fr.block⟩, hs.ex, hs.tab⟩ rfl hT)

end Go.Proofs.YtjgekbmahhhokaaDoor.V

namespace Go.Proofs.YtjgekbmahhhokaaDoor.V
open Go.RowKit
set_option linter.unusedVariables false
set_option linter.unusedSimpArgs false

variable {P : Program}

theorem bin_int {op : BinOp} {t : TypeId} {k : IntKind} {a b r : Int} (h : (op = .add ∧ k.wrap (a + b) = r) ∨ (op = .sub ∧ k.wrap (a - b) = r) ∨ (op = .mul ∧ k.wrap (a * b) = r)) : BinOK P op t (.int k a) (.int k b) (.int k r) := fun y z w => by
 rcases h with ⟨rfl, h⟩ | ⟨rfl, h⟩ | ⟨rfl, h⟩ <;> simp [eqGuard, binOp, Op.intArith, h]

theorem bin_add {t : TypeId} {k : IntKind} {a b r : Int} (h : k.wrap (a + b) = r) : BinOK P .add t (.int k a) (.int k b) (.int k r) := bin_int (.inl ⟨rfl, h⟩)
theorem bin_sub {t : TypeId} {k : IntKind} {a b r : Int} (h : k.wrap (a - b) = r) : BinOK P .sub t (.int k a) (.int k b) (.int k r) := bin_int (.inr (.inl ⟨rfl, h⟩))
theorem bin_mul {t : TypeId} {k : IntKind} {a b r : Int} (h : k.wrap (a * b) = r) : BinOK P .mul t (.int k a) (.int k b) (.int k r) := bin_int (.inr (.inr ⟨rfl, h⟩))
theorem bin_lss {t : TypeId} {k : IntKind} {a b : Int} : BinOK P .lss t (.int k a) (.int k b) (.bool (decide (a < b))) := fun y z w => by simp [eqGuard, binOp, Op.intCmp]
theorem bin_leq {t : TypeId} {k : IntKind} {a b : Int} : BinOK P .leq t (.int k a) (.int k b) (.bool (decide (a ≤ b))) := fun y z w => by simp [eqGuard, binOp, Op.intCmp]
theorem bin_gtr {t : TypeId} {k : IntKind} {a b : Int} : BinOK P .gtr t (.int k a) (.int k b) (.bool (decide (a > b))) := fun y z w => by simp [eqGuard, binOp, Op.intCmp]
theorem bin_geq {t : TypeId} {k : IntKind} {a b : Int} : BinOK P .geq t (.int k a) (.int k b) (.bool (decide (a ≥ b))) := fun y z w => by simp [eqGuard, binOp, Op.intCmp]
theorem bin_eql {t : TypeId} {k : IntKind} {a b : Int} : BinOK P .eql t (.int k a) (.int k b) (.bool (a == b)) := fun y z w => by simp [eqGuard, binOp, Op.intCmp]
theorem bin_neq {t : TypeId} {k : IntKind} {a b : Int} : BinOK P .neq t (.int k a) (.int k b) (.bool (a != b)) := fun y z w => by simp [eqGuard, binOp, Op.intCmp]
theorem bin_rem {t : TypeId} {k : IntKind} {a b : Int} (hb : b ≠ 0) : BinOK P .rem t (.int k a) (.int k b) (.int k (a.tmod b)) := fun y z w => by simp [eqGuard, binOp, Op.intDiv, hb]

theorem bin_seql {t : TypeId} {a b : ByteArray} : BinOK P .eql t (.string a) (.string b) (.bool (a.toList == b.toList)) := fun y z w => by simp [eqGuard, binOp, Op.stringOp]
theorem bin_sneq {t : TypeId} {a b : ByteArray} : BinOK P .neq t (.string a) (.string b) (.bool (!(a.toList == b.toList))) := fun y z w => by simp [eqGuard, binOp, Op.stringOp]
theorem bin_slss {t : TypeId} {a b : ByteArray} : BinOK P .lss t (.string a) (.string b) (.bool (Op.bytesLess a.toList b.toList)) := fun y z w => by simp [eqGuard, binOp, Op.stringOp]
theorem bin_sleq {t : TypeId} {a b : ByteArray} : BinOK P .leq t (.string a) (.string b) (.bool (Op.bytesLess a.toList b.toList || a.toList == b.toList)) := fun y z w => by simp [eqGuard, binOp, Op.stringOp]
theorem bin_sgtr {t : TypeId} {a b : ByteArray} : BinOK P .gtr t (.string a) (.string b) (.bool (!(Op.bytesLess a.toList b.toList || a.toList == b.toList))) := fun y z w => by simp [eqGuard, binOp, Op.stringOp]
theorem bin_sgeq {t : TypeId} {a b : ByteArray} : BinOK P .geq t (.string a) (.string b) (.bool (!Op.bytesLess a.toList b.toList)) := fun y z w => by simp [eqGuard, binOp, Op.stringOp]
theorem bin_cat {t : TypeId} {a b : ByteArray} (h : a.size + b.size ≤ 9223372036854775807) : BinOK P .add t (.string a) (.string b) (.string (a ++ b)) := fun y z w => by
 have : ¬ (((a.size + b.size : Nat) : Int) > IntKind.i64.max) := by
  have : IntKind.i64.max = 9223372036854775807 := rfl
  omega
 simp only [eqGuard, binOp, Op.stringOp, Sem.run_bind]
 simp only [this, if_false]
 simp

section
variable {G : List (Nat × List Value)} {x : St} {o : Oper}

def byteD (b : UInt8) : D := .v (.int .u8 (b.toNat : Int))

theorem still_ofBytes {s t e : TypeId} {y : Operand} {bs : List UInt8} {n : Nat} (ho : o.op = .convert s t y) (hy : opd x y = .list 1 (bs.map byteD) n) (hs : P.underlying s = some (.slice e)) (he : P.underlying e = some (.int .u8)) (ht : P.underlying t = some .string) :
  Still P G x o .imm (.v (.string ⟨bs.toArray⟩)) := fun C a w _ h => by
 have hr := h.eval y
 rw [hy] at hr
 generalize hg : a.eval y = u at hr
 generalize hcs : bs.map byteD = cs at hr
 cases hr with
 | void _ ad cap =>
  have : bs = [] := by simpa using hcs
  subst this
  refine ⟨_, .v _, fun w' _ => ?_⟩
  unfold execOp
  simp only [ho, hg, Sem.run_bind, run_convert_bytes_string w' s t e ad 0 cap hs he ht]
  cases ad <;> simp [Conv.bytesToString, loadCells, loadCellsFrom] <;> rfl
 | list _ _ _ b o'' cap g hl q1 q2 hb hL hc hrr =>
  subst hcs
  simp only [List.length_map, Nat.mul_one] at hl hc
  refine ⟨_, .v _, fun w' hw => ?_⟩
  unfold execOp
  have hrun := run_convert_bytes_back (P := P) w' s t e ⟨b, o'', none⟩ cap bs hs he ht (fun j hj => by
   rw [Addr.add_mid]
   have hh := World.cell?_of_block (w := w) (a := ⟨b, o'' + j, none⟩) (hw b hb hL)
   rw [hh, hc j hj]
   have := hrr j (by simpa using hj)
   simp only [List.getElem_map, byteD] at this
   rw [this.v_eq])
  rw [hl] at hrun
  simp only [ho, hg, Sem.run_bind, hrun, Result.andThen_ok, Sem.run_pure]
end

theorem un_not {b : Bool} : ∀ w, (Op.unary .not (.bool b)).run P w = .ok (.bool !b) w := fun w => rfl
theorem un_neg {k : IntKind} {a r : Int} (h : k.wrap (0 - a) = r) : ∀ w, (Op.unary .neg (.int k a)).run P w = .ok (.int k r) w := fun w => by
 subst h; rfl

theorem conv_int {s t : TypeId} {k k' : IntKind} {a r : Int} {d : TypeDesc} (hs : ∀ w, (underlying s).run P w = .ok d w) (ht : ∀ w, (underlying t).run P w = .ok (.int k') w) (h : k'.wrap a = r) : ∀ w, (convert s t (.int k a)).run P w = .ok (.int k' r) w := fun w => by
 subst h
 simp [convert, hs, ht, Conv.intToInt]

theorem wrap_i64 {x : Int} (h1 : -9223372036854775808 ≤ x) (h2 : x ≤ 9223372036854775807) : IntKind.i64.wrap x = x := IntWalk.i64_in _ (by omega)

theorem mm_min {ts : Array TypeId} {ty : TypeId} {k : IntKind} {a b : Int} : ∀ cs w, (builtin .min ts ty cs #[.int k a, .int k b]).run P w = .ok (.value (.int k (if b < a then b else a))) w := fun cs w => by
 simp [builtin, Builtin.min_, Builtin.min2]
theorem cnd : (∀ {p : Prop} [Decidable p], (decide p = true) = p) ∧ (∀ {p : Prop} [Decidable p], (decide p = false) ↔ ¬ p) ∧ (∀ {a b : Int}, (a == b) = true ↔ a = b) ∧ (∀ {a b : Int}, (a != b) = true ↔ a ≠ b) ∧ (∀ {a b : Bool}, (a == b) = true ↔ a = b) ∧ (∀ {a b : Bool}, (a != b) = true ↔ a ≠ b)
  ∧ (∀ {b : Bool}, ((!b) = true) = (b = false)) ∧ (∀ {b : Bool}, ((!b) = false) = (b = true)) ∧ (∀ {b : Bool}, (¬ b = true) = (b = false)) ∧ (∀ {b : Bool}, (¬ b = false) = (b = true)) ∧ (∀ {a b : Int}, (a == b) = false ↔ ¬ a = b) ∧ (∀ {a b : Int}, (a != b) = false ↔ a = b) ∧ (∀ {a b : Bool}, (a == b) = false ↔ ¬ a = b) ∧ (∀ {a b : Bool}, (a != b) = false ↔ a = b)
  ∧ (∀ {a b : Bool}, ((a && b) = true) = (a = true ∧ b = true)) ∧ (∀ {a b : Bool}, ((a || b) = true) = (a = true ∨ b = true)) ∧ (∀ {b : Bool}, (!!b) = b) ∧ (∀ {a b : Bool}, (a && b) = false ↔ a = false ∨ b = false) ∧ (∀ {a b : Bool}, (a || b) = false ↔ a = false ∧ b = false) ∧ (∀ {a b : Int}, (¬ a < b) ↔ b ≤ a) ∧ (∀ {a b : Int}, (¬ a ≤ b) ↔ b < a) := by
 refine ⟨fun {p} _ => by simp, fun {p} _ => by simp, by simp, by simp, by simp, by simp, by simp, by simp, by simp, by simp, by simp, by simp, by simp, by simp, by simp, by simp, by simp, by simp, by simp, by simp, by simp⟩
end Go.Proofs.YtjgekbmahhhokaaDoor.V

namespace Go.Proofs.YtjgekbmahhhokaaDoor.V
open Go.RowKit
set_option linter.unusedVariables false
set_option linter.unusedSimpArgs false

variable {P : Program} {C : Ctx} {G : List (Nat × List Value)} {Q : Exit → St → Prop} {x y : St} {ops : Array Oper} {l : List Oper} {o : Oper}

theorem still_mv {z : Operand} {d : D} (ho : o.op = .move z) (hd : opd x z = d) : Still P G x o .none d := hd ▸ still_move ho
theorem still_as {z : Operand} {d : D} (ho : o.op = .assign z) (hd : opd x z = d) : Still P G x o .none d := hd ▸ still_assign ho
theorem still_pickT {c y z : Operand} {t : Bool} {d : D} (ho : o.op = .pick c y z) (hc : opd x c = .v (.bool t)) (h : t = true) (hd : opd x y = d) : Still P G x o .none d := by
 have := still_pick (P := P) (G := G) ho hc; rw [if_pos h, hd] at this; exact this
theorem still_pickF {c y z : Operand} {t : Bool} {d : D} (ho : o.op = .pick c y z) (hc : opd x c = .v (.bool t)) (h : t = false) (hd : opd x z = d) : Still P G x o .none d := by
 have := still_pick (P := P) (G := G) ho hc; rw [if_neg (by rw [h]; simp), hd] at this; exact this

def Opds (x : St) : List Operand → List D → Prop
 | [], [] => True
 | o :: r, d :: r' => opd x o = d ∧ Opds x r r'
 | _, _ => False

theorem Opds.eq : ∀ {os : List Operand} {ds : List D}, Opds x os ds → os.map (opd x) = ds
 | [], [], _ => rfl
 | o :: r, d :: r', h => by rw [List.map_cons, h.1, Opds.eq h.2]
 | [], _ :: _, h => h.elim
 | _ :: _, [], h => h.elim

def Parts (x : St) : List (Nat × Operand) → List (Nat × D) → Prop
 | [], [] => True
 | p :: r, q :: r' => p.1 = q.1 ∧ opd x p.2 = q.2 ∧ Parts x r r'
 | _, _ => False

theorem Parts.eq : ∀ {ps : List (Nat × Operand)} {ds : List (Nat × D)}, Parts x ps ds → partsD x ps.toArray = ds
 | [], [], _ => rfl
 | p :: r, (i, d) :: r', h => by
  have := Parts.eq h.2.2
  simp only [partsD, List.map_cons] at this ⊢
  rw [this, h.1, h.2.1]
 | [], _ :: _, h => h.elim
 | _ :: _, [], h => h.elim

def solid : D → Bool
 | .junk => false
 | _ => true

theorem parts_solid {ps : List (Nat × D)} (h : ps.all (fun p => solid p.2) = true) : ∀ p ∈ ps, p.2 ≠ .junk := fun p hp he => by
 have := List.all_eq_true.1 h p hp
 rw [he] at this
 cases this

theorem still_bld {t : TypeId} {ps : List (Nat × Operand)} {pl : List (Nat × D)} {fs : Array Field} {places : Array (Nat × Nat)} {z : Value} {ds : List D} (ho : o.op = .build t ps.toArray) (hz : ∀ w, (zeroValue t).run P w = .ok z w)
  (hu : ∀ w, (underlying t).run P w = .ok (.struct fs) w) (hp : ∀ w, (fs.mapM fun f => do pure (f.offset, ← sizeOf f.type) : Sem (Array (Nat × Nat))).run P w = .ok places w)
  (hps : Parts x ps pl) (hj : pl.all (fun p => solid p.2) = true) (hd : fillD (places[·]?) (z.cells.toList.map .v) pl = some ds) : Still P G x o .none (.agg ds) := by
 refine still_build ho hz hu hp ?_ ?_
 ·rw [hps.eq]; exact parts_solid hj
 rw [hps.eq]; exact hd

def numD (k : Nat) : List D → List (Nat × D)
 | [] => []
 | d :: r => (k, d) :: numD (k + 1) r
theorem setAll_at : ∀ (ds pre post : List D), ds.length ≤ post.length → setAll (pre ++ post) pre.length ds = (pre ++ ds) ++ post.drop ds.length
 | [], pre, post, _ => by simp [setAll]
 | d :: ds, pre, [], h => by simp at h
 | d :: ds, pre, p :: post, h => by
  rw [setAll, show (pre ++ p :: post).set pre.length d = (pre ++ [d]) ++ post by simp, show pre.length + 1 = (pre ++ [d]).length by simp, setAll_at ds (pre ++ [d]) post (by simpa using h)]
  simp
theorem fill_go {sz : Nat} : ∀ (pd : List D) (k : Nat) (pre post : List D), (pd.all fun d => Nat.beq (cellsOf d).length sz) = true → pre.length = k * sz → post.length = pd.length * sz → fillD (fun i => some (i * sz, sz)) (pre ++ post) (numD k pd) = some (pre ++ pd.flatMap cellsOf)
 | [], k, pre, post, _, _, h => by
  have : post = [] := List.length_eq_zero_iff.1 (by simpa using h)
  simp [numD, fillD, this]
 | d :: r, k, pre, post, ha, h1, h2 => by
  rw [List.all_cons, Bool.and_eq_true] at ha
  have hd : (cellsOf d).length = sz := Nat.eq_of_beq_eq_true ha.1
  have hp : post.length = r.length * sz + sz := by rw [h2, List.length_cons, Nat.succ_mul]
  rw [numD, fillD]
  simp only
  rw [if_neg (by simp only [hd, List.length_append, h1, hp, ne_eq, not_true_eq_false, decide_false, Bool.false_or, decide_eq_true_eq]; omega), ← h1, setAll_at _ _ _ (by omega), fill_go r (k + 1) _ _ ha.2 (by rw [List.length_append, hd, h1, Nat.succ_mul]) (by rw [List.length_drop, hd]; omega), List.flatMap_cons]
  simp
theorem fill_full {sz : Nat} {pd zs ds : List D} (ha : (pd.all fun d => Nat.beq (cellsOf d).length sz) = true) (hl : Nat.beq zs.length (pd.length * sz) = true) (hds : pd.flatMap cellsOf = ds) : fillD (fun i => some (i * sz, sz)) zs (numD 0 pd) = some ds := by
 have := fill_go pd 0 [] zs ha (by simp) (Nat.eq_of_beq_eq_true hl)
 rw [List.nil_append, List.nil_append, hds] at this
 exact this

theorem OD.bldS {t e : TypeId} {tt len sz : Nat} {ps : List (Nat × Operand)} {pl : List (Nat × D)} {z : Value} {zvs : List Value} {ds : List D} (hw : Wants ops x o true) (ho : o.op = .buildSlice t len ps.toArray) (hdst : o.dst = some tt) (hz : ∀ w, (zeroValue e).run P w = .ok z w)
  (hu : ∀ w, (underlying t).run P w = .ok (.slice e) w) (hs : ∀ w, (sizeOf e).run P w = .ok sz w) (hl : Nat.ble 1 (len * sz) = true) (hl2 : Nat.ble (len * sz) (2 ^ 24) = true) (hzs : (Array.range (len * sz)).map (fun i => z.cells[i % z.cells.size]!) = zvs.toArray)
  (hps : Parts x ps pl) (hj : pl.all (fun p => solid p.2) = true) (hd : fillD (fun i => some (i * sz, sz)) (zvs.map .v) pl = some ds)
  (k : ∀ b, OD P C ops l ⟨x.n, (tt, .v (.slice (some ⟨b, 0, none⟩) len len)) :: x.env, ⟨b, e, ds.length, ds⟩ :: x.S⟩ Q) (hne : isMap e = false := by rfl) : OD P C ops (o :: l) x Q := by
 refine OD.eff hw (eff_buildSlice (hne := hne) (zs := zvs.map .v) (ds := ds) ho hdst hz hu hs (Nat.le_of_ble_eq_true hl) (Nat.le_of_ble_eq_true hl2) ?_ ?_ ?_ ?_) ?_
 ·rw [hzs]; congr 1; rw [List.map_map]; exact (List.map_id zvs).symm
 ·intro d hd
  obtain ⟨u, _, rfl⟩ := List.mem_map.1 hd
  exact ⟨u, rfl⟩
 ·rw [hps.eq]; exact parts_solid hj
 ·rw [hps.eq]; exact hd
 rintro _ ⟨b, rfl⟩; exact k b

theorem OD.alloc {e : TypeId} {z : Value} {t : Nat} {ds : List D} (hw : Wants ops x o true) (ho : o.op = .alloc e) (hd : o.dst = some t) (hz : ∀ w, (zeroValue e).run P w = .ok z w) (hds : z.cells.toList.map .v = ds)
  (k : ∀ b, OD P C ops l ⟨x.n, (t, .v (.pointer (some ⟨b, 0, none⟩))) :: x.env, ⟨b, e, ds.length, ds⟩ :: x.S⟩ Q) (hne : isMap e = false := by rfl) : OD P C ops (o :: l) x Q :=
 OD.eff hw (eff_alloc (hne := hne) ho hd hz hds) fun y ⟨b, hy⟩ => hy ▸ k b

theorem OD.box {e : TypeId} {z : Operand} {t : Nat} {d : D} {ds : List D} (hw : Wants ops x o true) (ho : o.op = .box e z) (hd : o.dst = some t) (hy : opd x z = d) (hj : solid d = true) (hds : cellsOf d = ds)
  (k : ∀ b, OD P C ops l ⟨x.n, (t, .v (.pointer (some ⟨b, 0, none⟩))) :: x.env, ⟨b, e, ds.length, ds⟩ :: x.S⟩ Q) (hne : isMap e = false := by rfl) : OD P C ops (o :: l) x Q :=
 OD.eff hw (eff_box (hne := hne) ho hd hy (fun h => by rw [h] at hj; cases hj) hds) fun y ⟨b, hy⟩ => hy ▸ k b

theorem OD.store {t : TypeId} {k b o' n : Nat} {B : Blk} {d : D} {cs' : List D} {y z : Operand} (hw : Wants ops x o true) (ho : o.op = .store t y z) (hdst : o.dst = none) (hy : opd x y = .v (.pointer (some ⟨b, o', none⟩)))
  (hk : x.S[k]? = some B) (hb : B.b = b) (hz : opd x z = d) (hj : solid d = true) (h1 : (cellsOf d).all one = true) (hn : ∀ w, (sizeOf t).run P w = .ok n w) (hln : (cellsOf d).length = n) (hl : Nat.ble (o' + n) B.cs.length = true) (hcs : setAll B.cs o' (cellsOf d) = cs')
  (K : OD P C ops l ⟨x.n, x.env, x.S.set k { B with cs := cs' }⟩ Q) (hne : isMap B.e = false := by rfl) : OD P C ops (o :: l) x Q :=
 OD.eff hw (eff_store (hne := hne) ho hdst hy hk hb hz (fun h => by rw [h] at hj; cases hj) h1 hn hln (Nat.le_of_ble_eq_true hl) hcs) fun y hy => hy ▸ K

theorem OD.call {f t : Nat} {fo : Operand} {ars : Array Operand} {ts : Array TypeId} {args : List D} {Sf R : List Blk} {post : D → List Blk → Prop} (hw : Wants ops x o true) (ho : o.op = .call { callee := .value fo, args := ars, argTypes := ts }) (hd : o.dst = some t)
  (hf : fo = .func f) (hcall : ∀ args w, (callFunc f args).run P w = .ok (.enter f args) w) (hc : VC P C.G f args Sf post) (ha : Opds x ars.toList args) (hp : x.S.Perm (Sf ++ R))
  (K : ∀ r S', post r S' → OD P C ops l ⟨x.n, (t, r) :: x.env, S' ++ R⟩ Q) : OD P C ops (o :: l) x Q :=
 OD.eff hw (eff_call ho hd hf hcall ha.eq hp hc) fun y ⟨r, S', h, hy⟩ => hy ▸ K r S' h

theorem OD.callP {f t : Nat} {fo : Operand} {ars : Array Operand} {ts : Array TypeId} {args : List D} {r : D} (hw : Wants ops x o true) (ho : o.op = .call { callee := .value fo, args := ars, argTypes := ts }) (hd : o.dst = some t)
  (hf : fo = .func f) (hcall : ∀ args w, (callFunc f args).run P w = .ok (.enter f args) w) (hc : VP P C.G f args r) (ha : Opds x ars.toList args)
  (K : OD P C ops l (x.put t r) Q) : OD P C ops (o :: l) x Q :=
 OD.call hw ho hd hf hcall hc ha (perm_none _) fun r' S' ⟨h1, h2⟩ => by subst h1 h2; exact K

theorem OD.callv {f t : Nat} {fo : Operand} {ars : Array Operand} {ts : Array TypeId} {args caps all : List D} {Sf R : List Blk} {post : D → List Blk → Prop} (hw : Wants ops x o true) (ho : o.op = .call { callee := .value fo, args := ars, argTypes := ts }) (hd : o.dst = some t)
  (hf : opd x fo = .clo (.func f) caps) (hcall : ∀ args w, (callFunc f args).run P w = .ok (.enter f args) w) (hc : VC P C.G f all Sf post) (hall : args ++ caps = all) (ha : Opds x ars.toList args) (hp : x.S.Perm (Sf ++ R))
  (K : ∀ r S', post r S' → OD P C ops l ⟨x.n, (t, r) :: x.env, S' ++ R⟩ Q) : OD P C ops (o :: l) x Q :=
 OD.eff hw (eff_callv ho hd hf hcall (by rw [ha.eq, hall]) hp hc) fun y ⟨r, S', h, hy⟩ => hy ▸ K r S' h

theorem OD.append {s y : Operand} {t e tt sz bytes n m b cap k : Nat} {z : Value} {B : Blk} {cs : List D} (hw : Wants ops x o true) (ho : o.op = .call { callee := .builtin .append, args := #[s, y], argTypes := #[t, t] }) (hd : o.dst = some tt)
  (ht : P.underlying t = some (.slice e)) (hi : (P.info? e).map (fun i => (i.zero, i.size, i.bytes)) = some (some z, sz, bytes)) (hzs : z.cells.size = sz) (hsz : 0 < sz)
  (hs : opd x s = .v (.slice (some ⟨b, 0, none⟩) n cap)) (hk : x.S[k]? = some B) (hb : B.b = b) (he : B.e = e) (hsize : B.size = cap * sz) (hl : B.cs.length = n * sz) (hn : n ≤ cap) (hcap : cap ≤ maxLen)
  (hy : opd x y = .list sz cs m) (hone : ∀ d ∈ cs, one d = true) (hm : 0 < m) (h63 : n + m ≤ maxLen) (hbytes : (n + m) * bytes ≤ 140737488355328)
  (K : ∀ b' cap', n + m ≤ cap' → cap' ≤ maxLen → OD P C ops l ⟨x.n, (tt, .v (.slice (some ⟨b', 0, none⟩) (n + m) cap')) :: x.env, ⟨b', e, cap' * sz, B.cs ++ cs⟩ :: x.S.eraseIdx k⟩ Q) (hne : isMap B.e = false := by rfl) : OD P C ops (o :: l) x Q :=
 OD.eff hw (eff_append (hne := hne) ho hd ht hi hzs hsz hs hk hb he hsize hl hn hcap hy hone hm h63 hbytes) fun y ⟨b', cap', h1, h2, hy⟩ => hy ▸ K b' cap' h1 h2

theorem OD.appendNil {s y : Operand} {t e tt sz bytes m : Nat} {z : Value} {cs : List D} (hw : Wants ops x o true) (ho : o.op = .call { callee := .builtin .append, args := #[s, y], argTypes := #[t, t] }) (hd : o.dst = some tt)
  (ht : P.underlying t = some (.slice e)) (hi : (P.info? e).map (fun i => (i.zero, i.size, i.bytes)) = some (some z, sz, bytes)) (hzs : z.cells.size = sz) (hsz : 0 < sz)
  (hs : opd x s = .v (.slice none 0 0)) (hy : opd x y = .list sz cs m) (hone : ∀ d ∈ cs, one d = true) (hm : 0 < m) (h63 : m ≤ maxLen) (hbytes : m * bytes ≤ 140737488355328)
  (K : ∀ b' cap', m ≤ cap' → cap' ≤ maxLen → OD P C ops l ⟨x.n, (tt, .v (.slice (some ⟨b', 0, none⟩) m cap')) :: x.env, ⟨b', e, cap' * sz, cs⟩ :: x.S⟩ Q) (hne : isMap e = false := by rfl) : OD P C ops (o :: l) x Q :=
 OD.eff hw (eff_appendNil (hne := hne) ho hd ht hi hzs hsz hs hy hone hm h63 hbytes) fun y ⟨b', cap', h1, h2, hy⟩ => hy ▸ K b' cap' h1 h2

theorem OD.split {t : Nat} {b : Bool} (hb : look t x.env = .v (.bool b)) (h1 : b = true → OD P C ops l x Q) (h2 : b = false → OD P C ops l x Q) : OD P C ops l x Q := by
 cases h : b
 ·exact h2 h
 exact h1 h

theorem still_nilCheck {z : Operand} {a' : Addr} (ho : o.op = .nilCheck z) (hz : opd x z = .v (.pointer (some a'))) : Still P G x o .none (.v (.pointer (some a'))) := fun C a w _ h =>
 ⟨_, .v _, fun w' _ => by unfold execOp; simp only [ho, h.flat hz]; rfl⟩
theorem still_nilCheckI {z : Operand} {cs : List D} {off : Nat} (ho : o.op = .nilCheck z) (hz : opd x z = .iptr cs off) : Still P G x o .none (.iptr cs off) := fun C a w _ h => by
 have hr := h.eval z
 rw [hz] at hr
 generalize hg : a.eval z = u at hr
 cases hr with
 | iptr _ _ b o'' g hb hL hc hrr => exact ⟨_, .iptr cs off b o'' g hb hL hc hrr, fun w' _ => by unfold execOp; simp only [ho, hg]; rfl⟩

theorem still_fn {fn : Fn} {caps : Array Operand} {ds : List D} (ho : o.op = .makeFunc fn #[] caps) (hd : Opds x caps.toList ds) : Still P G x o .none (.clo fn ds) := still_func ho hd.eq

/-! ### Lists of structs -/

theorem fm_len {α : Type} {g : α → List D} {sz : Nat} (hg : ∀ a, (g a).length = sz) : ∀ (ls : List α), (ls.flatMap g).length = ls.length * sz
 | [] => by simp
 | a :: r => by rw [List.flatMap_cons, List.length_append, hg, fm_len hg r, List.length_cons, Nat.add_mul]; omega

theorem fm_drop {α : Type} {g : α → List D} {sz : Nat} (hg : ∀ a, (g a).length = sz) : ∀ (ls : List α) (i : Nat), (ls.flatMap g).drop (i * sz) = (ls.drop i).flatMap g
 | [], i => by simp
 | a :: r, 0 => by simp
 | a :: r, i + 1 => by
  rw [List.flatMap_cons, List.drop_succ_cons, ← fm_drop hg r i, Nat.add_mul, Nat.one_mul, Nat.add_comm, ← List.drop_drop]
  congr 1
  rw [← hg a, List.drop_left]

theorem fm_take {α : Type} {g : α → List D} {sz : Nat} (hg : ∀ a, (g a).length = sz) : ∀ (ls : List α) (i : Nat), (ls.flatMap g).take (i * sz) = (ls.take i).flatMap g
 | [], i => by simp
 | a :: r, 0 => by simp
 | a :: r, i + 1 => by
  rw [List.flatMap_cons, List.take_succ_cons, List.flatMap_cons, ← fm_take hg r i, Nat.add_mul, Nat.one_mul, Nat.add_comm, ← hg a, List.take_length_add_append]

theorem fm_el {α : Type} {g : α → List D} {sz : Nat} (hg : ∀ a, (g a).length = sz) {ls : List α} {i : Nat} (hi : i < ls.length) : ((ls.flatMap g).drop (i * sz)).take sz = g ls[i] := by
 rw [fm_drop hg, List.drop_eq_getElem_cons hi, List.flatMap_cons, ← hg ls[i], List.take_left]

theorem fm_cell {α : Type} {g : α → List D} {sz : Nat} (hg : ∀ a, (g a).length = sz) {ls : List α} {i j : Nat} {d : D} (hi : i < ls.length) (hd : (g ls[i])[j]? = some d) : (ls.flatMap g)[i * sz + j]? = some d := by
 have h := fm_el hg hi
 have hj := (List.getElem?_eq_some_iff.1 hd).1
 rw [hg] at hj
 rw [← hd, ← h, List.getElem?_take_of_lt hj, List.getElem?_drop]

theorem fm_cell0 {α : Type} {g : α → List D} {sz : Nat} (hg : ∀ a, (g a).length = sz) {ls : List α} {i : Nat} {d : D} (hi : i < ls.length) (hd : (g ls[i])[0]? = some d) : (ls.flatMap g)[i * sz]? = some d := fm_cell hg hi hd

theorem fm_one {α : Type} {g : α → List D} (hg : ∀ a, (g a).all one = true) (ls : List α) : ∀ d ∈ ls.flatMap g, one d = true := fun d hd => by
 obtain ⟨a, _, h⟩ := List.mem_flatMap.1 hd
 exact List.all_eq_true.1 (hg a) d h

theorem still_fhead {α : Type} {g : α → List D} {t e : TypeId} {sz h' : Nat} (hg : ∀ a, (g a).length = sz) {ls : List α} {y : Operand} {lo hi : Option Operand} (ho : o.op = .slice t y lo hi none) (hy : opd x y = .list sz (ls.flatMap g) ls.length) (hlo : bound x lo 0 0) (hhi : bound x hi h' ls.length)
  (hu : ∀ w, (underlying t).run P w = .ok (.slice e) w) (hs : ∀ w, (sizeOf e).run P w = .ok sz w) (h2 : h' ≤ ls.length) : Still P G x o .none (.list sz ((ls.take h').flatMap g) (ls.take h').length) := by
 have := still_slice (P := P) (G := G) ho hy hlo hhi hu hs (Nat.zero_le _) h2
 rw [Nat.zero_mul, List.drop_zero, Nat.sub_zero, fm_take hg] at this
 rw [List.length_take, Nat.min_eq_left h2]
 exact this

theorem still_ftail {α : Type} {g : α → List D} {t e : TypeId} {sz l' : Nat} (hg : ∀ a, (g a).length = sz) {ls : List α} {y : Operand} {lo hi : Option Operand} (ho : o.op = .slice t y lo hi none) (hy : opd x y = .list sz (ls.flatMap g) ls.length) (hlo : bound x lo l' 0) (hhi : bound x hi ls.length ls.length)
  (hu : ∀ w, (underlying t).run P w = .ok (.slice e) w) (hs : ∀ w, (sizeOf e).run P w = .ok sz w) (h2 : l' ≤ ls.length) : Still P G x o .none (.list sz ((ls.drop l').flatMap g) (ls.drop l').length) := by
 have := still_slice (P := P) (G := G) ho hy hlo hhi hu hs h2 (Nat.le_refl _)
 rw [fm_drop hg, List.take_of_length_le (by rw [fm_len hg, List.length_drop]; exact Nat.le_refl _)] at this
 rw [List.length_drop]
 exact this

end Go.Proofs.YtjgekbmahhhokaaDoor.V

namespace Go.Proofs.YtjgekbmahhhokaaDoor.V
open Go.RowKit
set_option linter.unusedVariables false
set_option linter.unusedSimpArgs false

variable {P : Program} {C : Ctx} {Q : Exit → St → Prop} {x : St} {ops : Array Oper} {o : Oper} {S1 T : List Nat} {fuel i : Nat} {ld : Array Bool}

theorem mem_bks {S : List Blk} {k : Nat} {B : Blk} (hk : S[k]? = some B) : B.b ∈ bks S := List.mem_map.2 ⟨B, List.mem_of_getElem? hk, rfl⟩

theorem safe_blk {S : List Blk} {k k0 : Nat} {B : Blk} (hk : x.S[k]? = some B) (h0 : S[k0]? = some B) : Safe x (bks S) (.blk k) := ⟨B, hk, mem_bks h0⟩

theorem AD.split {t : Nat} {b : Bool} (hb : look t x.env = .v (.bool b)) (h1 : b = true → AD P C ops S1 T fuel ld x Q) (h2 : b = false → AD P C ops S1 T fuel ld x Q) : AD P C ops S1 T fuel ld x Q := by
 cases h : b
 ·exact h2 h
 exact h1 h
theorem AD0.split {t : Nat} {b : Bool} (hb : look t x.env = .v (.bool b)) (h1 : b = true → AD0 P C ops S1 T fuel ld x Q) (h2 : b = false → AD0 P C ops S1 T fuel ld x Q) : AD0 P C ops S1 T fuel ld x Q := by
 cases h : b
 ·exact h2 h
 exact h1 h
theorem AStep.split {t : Nat} {b : Bool} (hb : look t x.env = .v (.bool b)) (h1 : b = true → AStep P C ops S1 T fuel ld x Q i) (h2 : b = false → AStep P C ops S1 T fuel ld x Q i) : AStep P C ops S1 T fuel ld x Q i := by
 cases h : b
 ·exact h2 h
 exact h1 h

theorem AStep.eff0 {post : St → Prop} (hi : ops[i]? = some o) (hw : Wants ops x o true) (h : Eff P C.G x o [] post) (k : ∀ y, post y → AD P C ops S1 T fuel (ld.setIfInBounds i true) y Q) : AStep P C ops S1 T fuel ld x Q i :=
 AStep.eff hi hw h (fun _ _ _ _ _ _ hb => by simp at hb) (fun _ hb => by simp at hb) k

theorem away {C : Ctx} {a : Act} {w : World} (h : Sim C x a w) {k : Nat} {B : Blk} (hk : x.S[k]? = some B) (hT : ∀ b ∈ T, b ∈ bks (x.S.eraseIdx k)) : ∀ b ∈ T, b ∉ [B.b] := fun b hb hm => by
 have hp : (bks x.S).Perm (B.b :: bks (x.S.eraseIdx k)) := by have := (perm_pick hk).map Blk.b; simpa [bks] using this
 have hn := (List.nodup_cons.1 (hp.nodup_iff.1 h.own.apart)).1
 have : b = B.b := by simpa using hm
 exact hn (this ▸ hT b hb)

theorem AStep.alloc {e : TypeId} {z : Value} {t : Nat} {ds : List D} (hi : ops[i]? = some o) (hw : Wants ops x o true) (ho : o.op = .alloc e) (hd : o.dst = some t) (hz : ∀ w, (zeroValue e).run P w = .ok z w) (hds : z.cells.toList.map .v = ds)
  (k : ∀ b, AD P C ops S1 T fuel (ld.setIfInBounds i true) ⟨x.n, (t, .v (.pointer (some ⟨b, 0, none⟩))) :: x.env, ⟨b, e, ds.length, ds⟩ :: x.S⟩ Q) (hne : isMap e = false := by rfl) : AStep P C ops S1 T fuel ld x Q i :=
 AStep.eff0 hi hw (eff_alloc (hne := hne) ho hd hz hds) fun y ⟨b, hy⟩ => hy ▸ k b

theorem AStep.box {e : TypeId} {z : Operand} {t : Nat} {d : D} {ds : List D} (hi : ops[i]? = some o) (hw : Wants ops x o true) (ho : o.op = .box e z) (hd : o.dst = some t) (hy : opd x z = d) (hj : solid d = true) (hds : cellsOf d = ds)
  (k : ∀ b, AD P C ops S1 T fuel (ld.setIfInBounds i true) ⟨x.n, (t, .v (.pointer (some ⟨b, 0, none⟩))) :: x.env, ⟨b, e, ds.length, ds⟩ :: x.S⟩ Q) (hne : isMap e = false := by rfl) : AStep P C ops S1 T fuel ld x Q i :=
 AStep.eff0 hi hw (eff_box (hne := hne) ho hd hy (fun h => by rw [h] at hj; cases hj) hds) fun y ⟨b, hy⟩ => hy ▸ k b

theorem AStep.bldS {t e : TypeId} {tt len sz : Nat} {ps : List (Nat × Operand)} {pl : List (Nat × D)} {z : Value} {zvs : List Value} {ds : List D} (hi : ops[i]? = some o) (hw : Wants ops x o true) (ho : o.op = .buildSlice t len ps.toArray) (hdst : o.dst = some tt) (hz : ∀ w, (zeroValue e).run P w = .ok z w)
  (hu : ∀ w, (underlying t).run P w = .ok (.slice e) w) (hs : ∀ w, (sizeOf e).run P w = .ok sz w) (hl : Nat.ble 1 (len * sz) = true) (hl2 : Nat.ble (len * sz) (2 ^ 24) = true) (hzs : (Array.range (len * sz)).map (fun i => z.cells[i % z.cells.size]!) = zvs.toArray)
  (hps : Parts x ps pl) (hj : pl.all (fun p => solid p.2) = true) (hd : fillD (fun i => some (i * sz, sz)) (zvs.map .v) pl = some ds)
  (k : ∀ b, AD P C ops S1 T fuel (ld.setIfInBounds i true) ⟨x.n, (tt, .v (.slice (some ⟨b, 0, none⟩) len len)) :: x.env, ⟨b, e, ds.length, ds⟩ :: x.S⟩ Q) (hne : isMap e = false := by rfl) : AStep P C ops S1 T fuel ld x Q i := by
 refine AStep.eff0 hi hw (eff_buildSlice (hne := hne) (zs := zvs.map .v) (ds := ds) ho hdst hz hu hs (Nat.le_of_ble_eq_true hl) (Nat.le_of_ble_eq_true hl2) ?_ ?_ ?_ ?_) ?_
 ·rw [hzs]; congr 1; rw [List.map_map]; exact (List.map_id zvs).symm
 ·intro d hd
  obtain ⟨u, _, rfl⟩ := List.mem_map.1 hd
  exact ⟨u, rfl⟩
 ·rw [hps.eq]; exact parts_solid hj
 ·rw [hps.eq]; exact hd
 rintro _ ⟨b, rfl⟩; exact k b

theorem AStep.store {t : TypeId} {k b o' n : Nat} {B : Blk} {d : D} {cs' : List D} {y z : Operand} (hi : ops[i]? = some o) (hw : Wants ops x o true) (ho : o.op = .store t y z) (hdst : o.dst = none) (hy : opd x y = .v (.pointer (some ⟨b, o', none⟩)))
  (hk : x.S[k]? = some B) (hb : B.b = b) (hz : opd x z = d) (hj : solid d = true) (h1 : (cellsOf d).all one = true) (hn : ∀ w, (sizeOf t).run P w = .ok n w) (hln : (cellsOf d).length = n) (hl : Nat.ble (o' + n) B.cs.length = true) (hcs : setAll B.cs o' (cellsOf d) = cs')
  (hT : ∀ b ∈ T, b ∈ bks (x.S.eraseIdx k))
  (K : AD P C ops S1 T fuel (ld.setIfInBounds i true) ⟨x.n, x.env, x.S.set k { B with cs := cs' }⟩ Q) (hne : isMap B.e = false := by rfl) : AStep P C ops S1 T fuel ld x Q i :=
 AStep.eff hi hw (eff_store (hne := hne) ho hdst hy hk hb hz (fun h => by rw [h] at hj; cases hj) h1 hn hln (Nat.le_of_ble_eq_true hl) hcs) (fun C a w hs b' hb' => hb ▸ away hs hk hT b' hb') (fun b' hb' => by
  have : b' = b := by simpa using hb'
  subst this; rw [← hb]; exact mem_bks hk) fun y hy => hy ▸ K

theorem AStep.callP {f t : Nat} {fo : Operand} {ars : Array Operand} {ts : Array TypeId} {args : List D} {r : D} (hi : ops[i]? = some o) (hw : Wants ops x o true) (ho : o.op = .call { callee := .value fo, args := ars, argTypes := ts }) (hd : o.dst = some t)
  (hf : fo = .func f) (hcall : ∀ args w, (callFunc f args).run P w = .ok (.enter f args) w) (hc : VP P C.G f args r) (ha : Opds x ars.toList args)
  (K : AD P C ops S1 T fuel (ld.setIfInBounds i true) (x.put t r) Q) : AStep P C ops S1 T fuel ld x Q i :=
 AStep.eff0 hi hw (eff_call ho hd hf hcall ha.eq (perm_none _) hc) fun y ⟨r', S', ⟨h1, h2⟩, hy⟩ => by subst h1 h2; exact hy ▸ K

theorem AStep.call {f t : Nat} {fo : Operand} {ars : Array Operand} {ts : Array TypeId} {args : List D} {Sf R : List Blk} {post : D → List Blk → Prop} (hi : ops[i]? = some o) (hw : Wants ops x o true) (ho : o.op = .call { callee := .value fo, args := ars, argTypes := ts }) (hd : o.dst = some t)
  (hf : fo = .func f) (hcall : ∀ args w, (callFunc f args).run P w = .ok (.enter f args) w) (hc : VC P C.G f args Sf post) (ha : Opds x ars.toList args) (hp : x.S.Perm (Sf ++ R)) (hT : ∀ b ∈ T, b ∈ bks R)
  (K : ∀ r S', post r S' → AD P C ops S1 T fuel (ld.setIfInBounds i true) ⟨x.n, (t, r) :: x.env, S' ++ R⟩ Q) : AStep P C ops S1 T fuel ld x Q i :=
 AStep.eff hi hw (eff_call ho hd hf hcall ha.eq hp hc) (fun C a w hs b hb hm => by
  have h1 : (bks x.S).Perm (bks Sf ++ bks R) := by have := hp.map Blk.b; simpa [bks] using this
  have h2 := h1.nodup_iff.1 hs.own.apart
  exact (List.nodup_append.1 h2).2.2 b hm b (hT b hb) rfl) (fun b hb => by
  have h1 : (bks x.S).Perm (bks Sf ++ bks R) := by have := hp.map Blk.b; simpa [bks] using this
  exact h1.symm.subset (List.mem_append_left _ hb)) fun y ⟨r, S', h, hy⟩ => hy ▸ K r S' h

theorem AStep.append {s y : Operand} {t e tt sz bytes n m b cap k : Nat} {z : Value} {B : Blk} {cs : List D} (hi' : ops[i]? = some o) (hw : Wants ops x o true) (ho : o.op = .call { callee := .builtin .append, args := #[s, y], argTypes := #[t, t] }) (hd : o.dst = some tt)
  (ht : P.underlying t = some (.slice e)) (hi : (P.info? e).map (fun i => (i.zero, i.size, i.bytes)) = some (some z, sz, bytes)) (hzs : z.cells.size = sz) (hsz : 0 < sz)
  (hs : opd x s = .v (.slice (some ⟨b, 0, none⟩) n cap)) (hk : x.S[k]? = some B) (hb : B.b = b) (he : B.e = e) (hsize : B.size = cap * sz) (hl : B.cs.length = n * sz) (hn : n ≤ cap) (hcap : cap ≤ maxLen)
  (hy : opd x y = .list sz cs m) (hone : ∀ d ∈ cs, one d = true) (hm : 0 < m) (h63 : n + m ≤ maxLen) (hbytes : (n + m) * bytes ≤ 140737488355328) (hT : ∀ b ∈ T, b ∈ bks (x.S.eraseIdx k))
  (K : ∀ b' cap', n + m ≤ cap' → cap' ≤ maxLen → AD P C ops S1 T fuel (ld.setIfInBounds i true) ⟨x.n, (tt, .v (.slice (some ⟨b', 0, none⟩) (n + m) cap')) :: x.env, ⟨b', e, cap' * sz, B.cs ++ cs⟩ :: x.S.eraseIdx k⟩ Q) (hne : isMap B.e = false := by rfl) : AStep P C ops S1 T fuel ld x Q i :=
 AStep.eff hi' hw (eff_append (hne := hne) ho hd ht hi hzs hsz hs hk hb he hsize hl hn hcap hy hone hm h63 hbytes) (fun C a w hs b' hb' => hb ▸ away hs hk hT b' hb') (fun b' hb' => by
  have : b' = b := by simpa using hb'
  subst this; rw [← hb]; exact mem_bks hk) fun y ⟨b', cap', h1, h2, hy⟩ => hy ▸ K b' cap' h1 h2

theorem AStep.appendNil {s y : Operand} {t e tt sz bytes m : Nat} {z : Value} {cs : List D} (hi' : ops[i]? = some o) (hw : Wants ops x o true) (ho : o.op = .call { callee := .builtin .append, args := #[s, y], argTypes := #[t, t] }) (hd : o.dst = some tt)
  (ht : P.underlying t = some (.slice e)) (hi : (P.info? e).map (fun i => (i.zero, i.size, i.bytes)) = some (some z, sz, bytes)) (hzs : z.cells.size = sz) (hsz : 0 < sz)
  (hs : opd x s = .v (.slice none 0 0)) (hy : opd x y = .list sz cs m) (hone : ∀ d ∈ cs, one d = true) (hm : 0 < m) (h63 : m ≤ maxLen) (hbytes : m * bytes ≤ 140737488355328)
  (K : ∀ b' cap', m ≤ cap' → cap' ≤ maxLen → AD P C ops S1 T fuel (ld.setIfInBounds i true) ⟨x.n, (tt, .v (.slice (some ⟨b', 0, none⟩) m cap')) :: x.env, ⟨b', e, cap' * sz, cs⟩ :: x.S⟩ Q) (hne : isMap e = false := by rfl) : AStep P C ops S1 T fuel ld x Q i :=
 AStep.eff0 hi' hw (eff_appendNil (hne := hne) ho hd ht hi hzs hsz hs hy hone hm h63 hbytes) fun y ⟨b', cap', h1, h2, hy⟩ => hy ▸ K b' cap' h1 h2

end Go.Proofs.YtjgekbmahhhokaaDoor.V

namespace Go.Proofs.YtjgekbmahhhokaaDoor.V
open Go.RowKit
set_option linter.unusedVariables false
set_option linter.unusedSimpArgs false

variable {P : Program} {C : Ctx} {G : List (Nat × List Value)} {Q : Exit → St → Prop} {x : St} {ops : Array Oper} {l : List Oper} {o : Oper} {S1 T : List Nat} {fuel i : Nat} {ld : Array Bool}

def View (S : List Blk) (d d' : D) : Prop := ∀ (X Y : Nat → Prop) w v, (∀ b, Y b → X b) → (∀ b, X b → b ∉ bks S) → Own w (live X S) S → Rep w (live X S) d v → Rep w Y d' v

theorem Rep.bare {w : World} {X Y : Nat → Prop} {S : List Blk} {d : D} {v : Value} (h : Rep w (live X S) d v) (hY : ∀ b, Y b → X b) : Rep w Y d v := h.mono fun b _ hn => ⟨rfl, fun hy => hn (.inl (hY b hy))⟩

theorem view_same {S : List Blk} {d : D} : View S d d := fun X Y w v hY _ _ h => h.bare hY
theorem view_nil {S : List Blk} {sz : Nat} : View S (.v (.slice none 0 0)) (.list sz [] 0) := fun X Y w v _ _ _ h => by rw [h.v_eq]; exact .nil sz

theorem view_row {S : List Blk} {k sz n cap b : Nat} {B : Blk} {cs : List D} (hk : S[k]? = some B) (hb : B.b = b) (hcs : B.cs = cs) (hl : cs.length = n * sz) (h1 : n ≤ cap) (h2 : cap ≤ maxLen) (hne : isMap B.e = false := by rfl) : View S (.v (.slice (some ⟨b, 0, none⟩) n cap)) (.list sz cs n) := fun X Y w v hY hX ho h => by
 subst hb hcs
 rw [h.v_eq]
 obtain ⟨r0, cur, r1, r2, r3, r4⟩ := ho.at_ B (List.mem_of_getElem? hk)
 rw [ob_cells hne] at r1
 refine .list sz B.cs n B.b 0 cap (fun i => cur.getD i undef) hl h1 h2 r0 (fun hy => hX _ (hY _ hy) (List.mem_map.2 ⟨B, List.mem_of_getElem? hk, rfl⟩)) (fun i hi => ?_) (fun i hi => ?_)
 ·obtain ⟨u, hu, _⟩ := r4 i hi
  rw [Nat.zero_add, cell_blk r1 hu]
  simp [hu]
 obtain ⟨u, hu, hq⟩ := r4 i hi
 simp only [Array.getD_eq_getD_getElem?, hu, Option.getD_some]
 exact hq.bare hY

def Views (S : List Blk) : List D → List D → Prop
 | [], [] => True
 | d :: r, d' :: r' => View S d d' ∧ Views S r r'
 | _, _ => False

theorem Views.spec {S : List Blk} : ∀ {ds ds' : List D}, Views S ds ds' → ds.length = ds'.length ∧ ∀ i (h : i < ds.length) (h' : i < ds'.length), View S ds[i] ds'[i]
 | [], [], _ => ⟨rfl, fun i h => by simp at h⟩
 | d :: r, d' :: r', h => ⟨by simp [(Views.spec h.2).1], fun i h1 h2 => by
  cases i with
  | zero => exact h.1
  | succ i => exact (Views.spec h.2).2 i _ _⟩
 | [], _ :: _, h => h.elim
 | _ :: _, [], h => h.elim

def Looks (x : St) : List Operand → List D → Prop
 | [], [] => True
 | o :: r, d :: r' => (∃ d0, opd x o = d0 ∧ View x.S d0 d) ∧ Looks x r r'
 | _, _ => False

theorem Looks.rep {C : Ctx} {a : Act} {w : World} (h : Sim C x a w) : ∀ {os : List Operand} {ds : List D}, Looks x os ds → RepL w (fun _ => False) ds (os.map a.eval)
 | [], [], _ => ⟨rfl, fun i h => by simp at h⟩
 | o :: r, d :: r', ⟨⟨d0, h1, h2⟩, h3⟩ => RepL.cons (h2 _ _ _ _ (fun _ hf => hf.elim) h.exS h.own (h1 ▸ h.eval o)) (Looks.rep h h3)
 | [], _ :: _, h => h.elim
 | _ :: _, [], h => h.elim

theorem VC.cover {f : FuncId} {args : List D} {post : D → List Blk → Prop} {r' : D} (h : VC P G f args [] post) (hv : ∀ r S', post r S' → View S' r r') : VP P G f args r' := fun X w vs hp =>
 (h X w vs hp).mono fun e w' ⟨v, r, S', h1, h2, h3, h4, h5⟩ => by
  have hX : ∀ b, X b → b ∉ bks S' := fun b hb => (h5.block b (hp.ex b hb).1 (hp.ex b hb).2).2
  refine ⟨v, r', [], h1, ⟨rfl, rfl⟩, ⟨fun B hB => by simp at hB, by simp [bks]⟩, hv r S' h2 X _ w' v (fun b hb => ?_) hX h3 h4, ⟨h5.os, h5.tape, h5.output, h5.size, fun b hb hn => ⟨(h5.block b hb hn).1, by simp [bks]⟩⟩⟩
  rcases hb with hb | hb
  ·exact hb
  simp [bks] at hb

def flatD : D → Bool
 | .v _ => true
 | .tup cs => cs.all fun d => match d with | .v _ => true | .agg es => es.all (fun e => match e with | .v _ => true | _ => false) | _ => false
 | .agg cs => cs.all fun d => match d with | .v _ => true | _ => false
 | _ => false

theorem Rep.flat {w w' : World} {L L' : Nat → Prop} {d : D} {v : Value} (h : Rep w L d v) (hf : flatD d = true) : Rep w' L' d v := by
 have key : ∀ (d : D), (match d with | .v _ => true | _ => false) = true → ∀ v, Rep w L d v → Rep w' L' d v := fun d hd v h => by
  cases d <;> simp at hd
  rw [h.v_eq]; exact .v _
 have key2 : ∀ (d : D), (match d with | .v _ => true | .agg es => es.all (fun e => match e with | .v _ => true | _ => false) | _ => false) = true → ∀ v, Rep w L d v → Rep w' L' d v := fun d hd v h => by
  cases d <;> simp at hd
  ·rw [h.v_eq]; exact .v _
  cases h with
  | agg _ vs hl hr => exact .agg _ vs hl fun i h1 h2 => key _ (by have := hd _ (List.getElem_mem h1); simpa using this) _ (hr i h1 h2)
 cases h with
 | v => exact .v _
 | tup cs vs hl hr => exact .tup cs vs hl fun i h1 h2 => key2 _ (List.all_eq_true.1 hf _ (List.getElem_mem h1)) _ (hr i h1 h2)
 | agg cs vs hl hr => exact .agg cs vs hl fun i h1 h2 => key _ (List.all_eq_true.1 hf _ (List.getElem_mem h1)) _ (hr i h1 h2)
 | _ => cases hf

theorem eff_look {f t : Nat} {fo : Operand} {ars : Array Operand} {ts : Array TypeId} {args : List D} {r : D} (ho : o.op = .call { callee := .value fo, args := ars, argTypes := ts }) (hd : o.dst = some t)
  (hf : fo = .func f) (hcall : ∀ args w, (callFunc f args).run P w = .ok (.enter f args) w) (hc : VP P G f args r) (hr : flatD r = true) (ha : Looks x ars.toList args) :
  Eff P G x o [] (fun y => y = x.put t r) := fun C a w K Q hG h hK => by
 subst hf
 have hrun : (execOp a.eval o).run P w = .ok (.enter f (ars.toList.map a.eval).toArray) w := by
  unfold execOp
  have e : ars.map a.eval = (ars.toList.map a.eval).toArray := by
   rw [← Array.toList_map, Array.toArray_toList]
  simp only [ho, resolve, Act.eval, Deferred.ofValue, Sem.run_bind, Sem.run_pure, Result.andThen_ok, invoke, e]
  simp [hcall]
 have hpre : Pre G (fun _ => False) w [] args (ars.toList.map a.eval) := by
  refine ⟨fun b hx => hx.elim, fun g hg => ?_, ⟨fun B hB => by simp at hB, by simp [bks]⟩, (Looks.rep h ha).mono fun b _ _ => ⟨rfl, fun hl => by rcases hl with hl | hl; exact hl; simp [bks] at hl⟩⟩
  rw [← hG] at hg
  exact ⟨⟨Nat.lt_of_lt_of_le (h.tab g hg).1.1 h.fr.size, by simp [bks], id⟩, fun i v hi => h.tabAt hg hi⟩
 unfold Oper.wp
 rw [hrun, Oper.upon_enter, hd]
 refine (hc _ w _ hpre).mono fun e w' ⟨v, r', S', h1, ⟨h2, h2'⟩, h3, h4, h5⟩ => ?_
 subst h1 h2 h2'
 have hb : ∀ b, b < w.heap.size → w'.heap[b]? = w.heap[b]? := fun b hb => (h5.block b hb (by simp [bks])).1
 have base : Sim C x a w' := by
  refine ⟨h.defers, h.size, fun t ht => (h.env t ht).mono fun b hb' hn => ⟨hb b hb', hn⟩, ⟨fun B hB => ?_, h.own.apart⟩, ?_, h.ex, h.tab⟩
  ·obtain ⟨r0, cur, r1, r2, r3, r4⟩ := h.own.at_ B hB
   refine ⟨lt_of_same r0 (hb _ r0), cur, (hb _ r0).trans r1, r2, r3, fun i hi => ?_⟩
   obtain ⟨u, hu, hq⟩ := r4 i hi
   exact ⟨u, hu, hq.mono fun b hb' hn => ⟨hb b hb', hn⟩⟩
  exact ⟨h5.os.trans h.fr.os, h5.tape.trans h.fr.tape, h5.output.trans h.fr.output, Nat.le_trans h.fr.size h5.size, fun b hb' hn => ⟨(hb b (Nat.lt_of_lt_of_le hb' h.fr.size)).trans (h.fr.block b hb' hn).1, (h.fr.block b hb' hn).2⟩⟩
 exact hK _ _ _ rfl (base.put (h4.flat hr)) ⟨h5.size, fun b hb' _ => hb b hb'⟩ ⟨h5.os, h5.tape, h5.output, h5.size, fun b hb' hn => ⟨hb b hb', hn⟩⟩

theorem OD.look {f t : Nat} {fo : Operand} {ars : Array Operand} {ts : Array TypeId} {args : List D} {r : D} (hw : Wants ops x o true) (ho : o.op = .call { callee := .value fo, args := ars, argTypes := ts }) (hd : o.dst = some t)
  (hf : fo = .func f) (hcall : ∀ args w, (callFunc f args).run P w = .ok (.enter f args) w) (hc : VP P C.G f args r) (hr : flatD r = true) (ha : Looks x ars.toList args)
  (K : OD P C ops l (x.put t r) Q) : OD P C ops (o :: l) x Q := OD.eff hw (eff_look ho hd hf hcall hc hr ha) fun y hy => hy ▸ K

theorem AStep.look {f t : Nat} {fo : Operand} {ars : Array Operand} {ts : Array TypeId} {args : List D} {r : D} (hi : ops[i]? = some o) (hw : Wants ops x o true) (ho : o.op = .call { callee := .value fo, args := ars, argTypes := ts }) (hd : o.dst = some t)
  (hf : fo = .func f) (hcall : ∀ args w, (callFunc f args).run P w = .ok (.enter f args) w) (hc : VP P C.G f args r) (hr : flatD r = true) (ha : Looks x ars.toList args)
  (K : AD P C ops S1 T fuel (ld.setIfInBounds i true) (x.put t r) Q) : AStep P C ops S1 T fuel ld x Q i := AStep.eff0 hi hw (eff_look ho hd hf hcall hc hr ha) fun y hy => hy ▸ K

/-! ### nil -/

def OwnL (e sz : Nat) (cs : List D) (n : Nat) (ad : Option Addr) (cap : Nat) (S : List Blk) : Prop :=
 (n = 0 ∧ cs = [] ∧ ad = none ∧ cap = 0 ∧ S = []) ∨ ∃ b, ad = some ⟨b, 0, none⟩ ∧ n ≤ cap ∧ cap ≤ maxLen ∧ S = [⟨b, e, cap * sz, cs⟩]

theorem view_own {S Sq : List Blk} {e sz n cap : Nat} {cs : List D} {ad : Option Addr} (h : OwnL e sz cs n ad cap Sq) (hl : cs.length = n * sz) (hs : ∀ B ∈ Sq, B ∈ S) (hne : isMap e = false := by rfl) : View S (.v (.slice ad n cap)) (.list sz cs n) := by
 rcases h with ⟨rfl, rfl, rfl, rfl, rfl⟩ | ⟨b, rfl, h1, h2, rfl⟩
 ·exact view_nil
 obtain ⟨k, hk, he⟩ := List.mem_iff_getElem.1 (hs _ List.mem_cons_self)
 exact view_row (hne := hne) (k := k) (by rw [List.getElem?_eq_getElem hk, he]) rfl rfl hl h1 h2

theorem OwnL.le {e sz n cap : Nat} {cs : List D} {ad : Option Addr} {S : List Blk} (h : OwnL e sz cs n ad cap S) : n ≤ cap := by
 rcases h with ⟨rfl, _, _, rfl, _⟩ | ⟨_, _, h, _⟩
 ·exact Nat.le_refl _
 exact h

theorem Wk.perm {n : Nat} {env : List (Nat × D)} {S S' : List Blk} (hp : S.Perm S') : Wk ⟨n, env, S⟩ ⟨n, env, S'⟩ := fun C a w h => by
 have hb : (bks S).Perm (bks S') := hp.map Blk.b
 have hl : live C.X S = live C.X S' := by funext b; exact propext (or_congr Iff.rfl hb.mem_iff)
 have henv := h.env
 have hown := h.own
 simp only [hl] at henv hown
 exact ⟨h.defers, h.size, henv, ⟨fun B hB => hown.at_ B (hp.symm.subset hB), hb.nodup_iff.1 hown.apart⟩,
  ⟨h.fr.os, h.fr.tape, h.fr.output, h.fr.size, fun b h1 h2 => ⟨(h.fr.block b h1 h2).1, fun hm => (h.fr.block b h1 h2).2 (hb.symm.subset hm)⟩⟩, h.ex, h.tab⟩

theorem OD.perm {S' : List Blk} (hp : x.S.Perm S') (k : OD P C ops l ⟨x.n, x.env, S'⟩ Q) : OD P C ops l x Q := OD.wk (Wk.perm hp) k
theorem AD.perm {S' : List Blk} (hp : x.S.Perm S') (k : AD P C ops S1 T fuel ld ⟨x.n, x.env, S'⟩ Q) : AD P C ops S1 T fuel ld x Q := AD.wkSub (Wk.perm hp) (fun b hb => (hp.map Blk.b).symm.subset hb) k
theorem CD.perm {c : Code} {S' : List Blk} (hp : x.S.Perm S') (k : CD P C c ⟨x.n, x.env, S'⟩ Q) : CD P C c x Q := CD.wk (Wk.perm hp) k

theorem Wk.cover {n : Nat} {l : List (Nat × D)} {S R Sd : List Blk} {A : Blk} {cs' : List D} (hp : S.Perm ((A :: R) ++ Sd)) (hv : Views Sd A.cs cs') : Wk ⟨n, l, S⟩ ⟨n, l, { A with cs := cs' } :: R⟩ := fun C a w h0 => by
 have h := Wk.perm hp C a w h0
 have hd : Sim C ⟨n, l, A :: R⟩ a w := Wk.drop n l _ (A :: R) (List.sublist_append_left _ _) C a w h
 obtain ⟨v1, v2⟩ := hv.spec
 have hlive : live C.X ({ A with cs := cs' } :: R) = live C.X (A :: R) := rfl
 have hL : live C.X ((A :: R) ++ Sd) = live (fun b => live C.X (A :: R) b) Sd := by
  funext b
  simp only [live, bks, List.map_append, List.mem_append]
  exact propext or_assoc.symm
 have hnd : (bks (A :: R) ++ bks Sd).Nodup := by have := h.own.apart; simpa [bks] using this
 have hX : ∀ b, live C.X (A :: R) b → b ∉ bks Sd := fun b hb hm => by
  rcases hb with hb | hb
  ·exact h.exS b hb (by simp only [bks, List.map_append, List.mem_append] at hm ⊢; exact .inr hm)
  exact (List.nodup_append.1 hnd).2.2 b hb b hm rfl
 have hOwn : Own w (live (fun b => live C.X (A :: R) b) Sd) Sd := ⟨fun B hB => by rw [← hL]; exact h.own.at_ B (List.mem_append_right _ hB), (List.nodup_append.1 hnd).2.1⟩
 refine ⟨hd.defers, hd.size, hd.env, ⟨fun B hB => ?_, hd.own.apart⟩, hd.fr, hd.ex, hd.tab⟩
 rcases List.mem_cons.1 hB with rfl | hB
 ·obtain ⟨r0, cur, r1, r2, r3, r4⟩ := h.own.at_ A (List.mem_append_left _ List.mem_cons_self)
  refine ⟨r0, cur, r1, r2, by rw [← v1]; exact r3, fun i hi => ?_⟩
  have hi' : i < A.cs.length := by rw [v1]; exact hi
  obtain ⟨u, hu, hq⟩ := r4 i hi'
  refine ⟨u, hu, v2 i hi' hi (fun b => live C.X (A :: R) b) _ w u (fun b hb => hb) hX hOwn ?_⟩
  rw [← hL]; exact hq
 exact hd.own.at_ B (List.mem_cons_of_mem _ hB)

theorem OD.cover {R Sd : List Blk} {A : Blk} {cs' : List D} (hp : x.S.Perm ((A :: R) ++ Sd)) (hv : Views Sd A.cs cs') (k : OD P C ops l ⟨x.n, x.env, { A with cs := cs' } :: R⟩ Q) : OD P C ops l x Q := OD.wk (Wk.cover hp hv) k

theorem perm_erase {S R : List Blk} {k : Nat} {B : Blk} (hk : S[k]? = some B) (hp : S.Perm (B :: R)) : (S.eraseIdx k).Perm R := ((perm_pick hk).symm.trans hp).cons_inv

theorem OD.give {k t m cap sz b : Nat} {B : Blk} {cs : List D} (hk : x.S[k]? = some B) (ht : V.look t x.env = .v (.slice (some ⟨b, 0, none⟩) m cap)) (hb : B.b = b) (hcs : B.cs = cs) (hl : cs.length = m * sz) (h1 : m ≤ cap) (h2 : cap ≤ maxLen)
  (K : OD P C ops l ⟨x.n, (t, .list sz cs m) :: x.env, x.S.eraseIdx k⟩ Q) (hne : isMap B.e = false := by rfl) : OD P C ops l x Q := by
 subst hb; exact OD.wk (Wk.give (hne := hne) (n := x.n) (l := x.env) (S := x.S) hk ht hcs hl h1 h2) K
theorem AD.give {k t m cap sz b : Nat} {B : Blk} {cs : List D} (hk : x.S[k]? = some B) (ht : V.look t x.env = .v (.slice (some ⟨b, 0, none⟩) m cap)) (hb : B.b = b) (hcs : B.cs = cs) (hl : cs.length = m * sz) (h1 : m ≤ cap) (h2 : cap ≤ maxLen)
  (K : AD P C ops S1 T fuel ld ⟨x.n, (t, .list sz cs m) :: x.env, x.S.eraseIdx k⟩ Q) (hne : isMap B.e = false := by rfl) : AD P C ops S1 T fuel ld x Q := by
 subst hb; exact AD.wkSub (Wk.give (hne := hne) (n := x.n) (l := x.env) (S := x.S) hk ht hcs hl h1 h2) (fun b hb => (List.Sublist.map Blk.b (List.eraseIdx_sublist x.S k)).subset hb) K

theorem OD.appendOwn {s y : Operand} {t e tt sz bytes n m cap : Nat} {ad : Option Addr} {z : Value} {cs new : List D} {Sq R : List Blk} (hw : Wants ops x o true) (ho : o.op = .call { callee := .builtin .append, args := #[s, y], argTypes := #[t, t] }) (hd : o.dst = some tt)
  (ht : P.underlying t = some (.slice e)) (hi : (P.info? e).map (fun i => (i.zero, i.size, i.bytes)) = some (some z, sz, bytes)) (hzs : z.cells.size = sz) (hsz : 0 < sz)
  (hs : opd x s = .v (.slice ad n cap)) (ho' : OwnL e sz cs n ad cap Sq) (hp : x.S.Perm (Sq ++ R)) (hl : cs.length = n * sz)
  (hy : opd x y = .list sz new m) (hone : ∀ d ∈ new, one d = true) (hm : 0 < m) (h63 : n + m ≤ maxLen) (hbytes : (n + m) * bytes ≤ 140737488355328)
  (K : ∀ b' cap', n + m ≤ cap' → cap' ≤ maxLen → OD P C ops l ⟨x.n, (tt, .v (.slice (some ⟨b', 0, none⟩) (n + m) cap')) :: x.env, ⟨b', e, cap' * sz, cs ++ new⟩ :: R⟩ Q) (hne : isMap e = false := by rfl) : OD P C ops (o :: l) x Q := by
 rcases ho' with ⟨rfl, rfl, rfl, rfl, rfl⟩ | ⟨b, rfl, h1, h2, rfl⟩
 ·refine OD.appendNil (hne := hne) hw ho hd ht hi hzs hsz hs hy hone hm (by omega) (by rw [Nat.zero_add] at hbytes; exact hbytes) fun b' cap' q1 q2 => ?_
  have := K b' cap' (by omega) q2
  rw [Nat.zero_add] at this
  exact OD.wk (Wk.perm (hp.cons _)) this
 obtain ⟨k, hk, he⟩ := List.mem_iff_getElem.1 (hp.symm.subset (List.mem_append_left _ List.mem_cons_self))
 have hk' : x.S[k]? = some (⟨b, e, cap * sz, cs⟩ : Blk) := by rw [List.getElem?_eq_getElem hk, he]
 refine OD.append (hne := hne) hw ho hd ht hi hzs hsz hs hk' rfl rfl rfl hl h1 h2 hy hone hm h63 hbytes fun b' cap' q1 q2 => ?_
 exact OD.wk (Wk.perm ((perm_erase hk' hp).cons _)) (K b' cap' q1 q2)

theorem AStep.appendOwn {s y : Operand} {t e tt sz bytes n m cap : Nat} {ad : Option Addr} {z : Value} {cs new : List D} {Sq R : List Blk} (hi' : ops[i]? = some o) (hw : Wants ops x o true) (ho : o.op = .call { callee := .builtin .append, args := #[s, y], argTypes := #[t, t] }) (hd : o.dst = some tt)
  (ht : P.underlying t = some (.slice e)) (hi : (P.info? e).map (fun i => (i.zero, i.size, i.bytes)) = some (some z, sz, bytes)) (hzs : z.cells.size = sz) (hsz : 0 < sz)
  (hs : opd x s = .v (.slice ad n cap)) (ho' : OwnL e sz cs n ad cap Sq) (hp : x.S.Perm (Sq ++ R)) (hl : cs.length = n * sz)
  (hy : opd x y = .list sz new m) (hone : ∀ d ∈ new, one d = true) (hm : 0 < m) (h63 : n + m ≤ maxLen) (hbytes : (n + m) * bytes ≤ 140737488355328) (hT : ∀ b ∈ T, b ∈ bks R)
  (K : ∀ b' cap', n + m ≤ cap' → cap' ≤ maxLen → AD P C ops S1 T fuel (ld.setIfInBounds i true) ⟨x.n, (tt, .v (.slice (some ⟨b', 0, none⟩) (n + m) cap')) :: x.env, ⟨b', e, cap' * sz, cs ++ new⟩ :: R⟩ Q) (hne : isMap e = false := by rfl) : AStep P C ops S1 T fuel ld x Q i := by
 rcases ho' with ⟨rfl, rfl, rfl, rfl, rfl⟩ | ⟨b, rfl, h1, h2, rfl⟩
 ·refine AStep.appendNil (hne := hne) hi' hw ho hd ht hi hzs hsz hs hy hone hm (by omega) (by rw [Nat.zero_add] at hbytes; exact hbytes) fun b' cap' q1 q2 => ?_
  have := K b' cap' (by omega) q2
  rw [Nat.zero_add] at this
  exact AD.wkSub (Wk.perm (hp.cons _)) (fun b hb => ((hp.cons _).map Blk.b).symm.subset hb) this
 obtain ⟨k, hk, he⟩ := List.mem_iff_getElem.1 (hp.symm.subset (List.mem_append_left _ List.mem_cons_self))
 have hk' : x.S[k]? = some (⟨b, e, cap * sz, cs⟩ : Blk) := by rw [List.getElem?_eq_getElem hk, he]
 refine AStep.append (hne := hne) hi' hw ho hd ht hi hzs hsz hs hk' rfl rfl rfl hl h1 h2 hy hone hm h63 hbytes (fun b hb => ((perm_erase hk' hp).map Blk.b).symm.subset (hT b hb)) fun b' cap' q1 q2 => ?_
 exact AD.wkSub (Wk.perm ((perm_erase hk' hp).cons _)) (fun b hb => (((perm_erase hk' hp).cons _).map Blk.b).symm.subset hb) (K b' cap' q1 q2)

end Go.Proofs.YtjgekbmahhhokaaDoor.V

namespace Go.Proofs.YtjgekbmahhhokaaDoor.V
open Go.RowKit
set_option linter.unusedVariables false
set_option linter.unusedSimpArgs false

variable {P : Program} {G : List (Nat × List Value)} {x : St} {o : Oper} {S : List Blk}

def R1 (P : Program) (G : List (Nat × List Value)) (S : List Blk) (mk : Operand → Op) (d0 : D) (k : Rd) (d : D) : Prop := ∀ x o y, o.op = mk y → opd x y = d0 → x.S = S → Still P G x o k d

theorem still_r1 {mk : Operand → Op} {y : Operand} {d0 d : D} {k : Rd} (ho : o.op = mk y) (hy : opd x y = d0) (H : R1 P G x.S mk d0 k d) : Still P G x o k d := H x o y ho hy rfl

def R2 (P : Program) (G : List (Nat × List Value)) (S : List Blk) (mk : Operand → Operand → Op) (d0 d1 : D) (k : Rd) (d : D) : Prop := ∀ x o y z, o.op = mk y z → opd x y = d0 → opd x z = d1 → x.S = S → Still P G x o k d

theorem still_r2 {mk : Operand → Operand → Op} {y z : Operand} {d0 d1 d : D} {k : Rd} (ho : o.op = mk y z) (hy : opd x y = d0) (hz : opd x z = d1) (H : R2 P G x.S mk d0 d1 k d) : Still P G x o k d := H x o y z ho hy hz rfl

theorem ld_blk {t k b o' : Nat} {B : Blk} {d : D} (hk : S[k]? = some B) (hb : B.b = b) (ha : ∀ w, (isAgg t).run P w = .ok false w) (hd : B.cs[o']? = some d) (hne : isMap B.e = false := by rfl) : R1 P G S (Op.load t) (.v (.pointer (some ⟨b, o', none⟩))) (.blk k) d := fun x o y ho hy hS => still_load (hne := hne) ho hy (hS ▸ hk) hb ha hd
theorem ld_blks {t k b o' n : Nat} {B : Blk} {ds : List D} (hk : S[k]? = some B) (hb : B.b = b) (ha : ∀ w, (isAgg t).run P w = .ok true w) (hn : ∀ w, (sizeOf t).run P w = .ok n w) (hl : ds.length = n) (hd : (B.cs.drop o').take n = ds) (hne : isMap B.e = false := by rfl) : R1 P G S (Op.load t) (.v (.pointer (some ⟨b, o', none⟩))) (.blk k) (.agg ds) := fun x o y ho hy hS => still_loads (hne := hne) ho hy (hS ▸ hk) hb ha hn hl hd
theorem ld_i {t o' : Nat} {cs : List D} {d : D} (ha : ∀ w, (isAgg t).run P w = .ok false w) (hd : cs[o']? = some d) : R1 P G S (Op.load t) (.iptr cs o') .imm d := fun x o y ho hy _ => still_iload ho hy ha hd
theorem ld_fm {α : Type} {g : α → List D} {t sz i j : Nat} {ls : List α} {d : D} (hg : ∀ a, (g a).length = sz) (ha : ∀ w, (isAgg t).run P w = .ok false w) (hi : i < ls.length) (hd : (g ls[i])[j]? = some d) : R1 P G S (Op.load t) (.iptr (ls.flatMap g) (i * sz + j)) .imm d := ld_i ha (fm_cell hg hi hd)
theorem ld_fm0 {α : Type} {g : α → List D} {t sz i : Nat} {ls : List α} {d : D} (hg : ∀ a, (g a).length = sz) (ha : ∀ w, (isAgg t).run P w = .ok false w) (hi : i < ls.length) (hd : (g ls[i])[0]? = some d) : R1 P G S (Op.load t) (.iptr (ls.flatMap g) (i * sz)) .imm d := ld_i ha (fm_cell0 hg hi hd)
theorem ld_row {α : Type} {g : α → List D} {t k b sz i j : Nat} {B : Blk} {ls : List α} {d : D} (hg : ∀ a, (g a).length = sz) (hk : S[k]? = some B) (hb : B.b = b) (hcs : B.cs = ls.flatMap g) (ha : ∀ w, (isAgg t).run P w = .ok false w) (hi : i < ls.length) (hd : (g ls[i])[j]? = some d) (hne : isMap B.e = false := by rfl) : R1 P G S (Op.load t) (.v (.pointer (some ⟨b, 0 + i * sz + j, none⟩))) (.blk k) d :=
 ld_blk (hne := hne) hk hb ha (by rw [hcs, Nat.zero_add]; exact fm_cell hg hi hd)
theorem ld_row0 {α : Type} {g : α → List D} {t k b sz i : Nat} {B : Blk} {ls : List α} {d : D} (hg : ∀ a, (g a).length = sz) (hk : S[k]? = some B) (hb : B.b = b) (hcs : B.cs = ls.flatMap g) (ha : ∀ w, (isAgg t).run P w = .ok false w) (hi : i < ls.length) (hd : (g ls[i])[0]? = some d) (hne : isMap B.e = false := by rfl) : R1 P G S (Op.load t) (.v (.pointer (some ⟨b, 0 + i * sz, none⟩))) (.blk k) d :=
 ld_blk (hne := hne) hk hb ha (by rw [hcs, Nat.zero_add]; exact fm_cell0 hg hi hd)
theorem ld_rows {α : Type} {g : α → List D} {t k b sz i : Nat} {B : Blk} {ls : List α} (hg : ∀ a, (g a).length = sz) (hk : S[k]? = some B) (hb : B.b = b) (hcs : B.cs = ls.flatMap g) (ha : ∀ w, (isAgg t).run P w = .ok true w) (hn : ∀ w, (sizeOf t).run P w = .ok sz w) (hi : i < ls.length) (hne : isMap B.e = false := by rfl) : R1 P G S (Op.load t) (.v (.pointer (some ⟨b, 0 + i * sz, none⟩))) (.blk k) (.agg (g ls[i])) :=
 ld_blks (hne := hne) hk hb ha hn (hg _) (by rw [hcs, Nat.zero_add]; exact fm_el hg hi)

theorem fa_ptr {s : TypeId} {i n off b o' : Nat} {f : Field} {fs : Array Field} (hu : ∀ w, (underlying s).run P w = .ok (.struct fs) w) (hf : fs[i]? = some f) (hn : ∀ w, (sizeOf f.type).run P w = .ok (n + 1) w) (hoff : f.offset = off) : R1 P G S (fun y => Op.fieldAddr s y i) (.v (.pointer (some ⟨b, o', none⟩))) .none (.v (.pointer (some ⟨b, o' + off, none⟩))) := fun x o y ho hy _ => still_field ho hy hu hf hn hoff
theorem fa_iptr {s : TypeId} {i n off o' : Nat} {cs : List D} {f : Field} {fs : Array Field} (hu : ∀ w, (underlying s).run P w = .ok (.struct fs) w) (hf : fs[i]? = some f) (hn : ∀ w, (sizeOf f.type).run P w = .ok (n + 1) w) (hoff : f.offset = off) : R1 P G S (fun y => Op.fieldAddr s y i) (.iptr cs o') .none (.iptr cs (o' + off)) := fun x o y ho hy _ => still_ifield ho hy hu hf hn hoff

theorem len_row {t e : TypeId} {ad : Option Addr} {len cap : Nat} {ts : Array TypeId} (ht : ts = #[t]) (hu : ∀ w, (underlying t).run P w = .ok (.slice e) w) : R1 P G S (fun y => .call { callee := .builtin .len, args := #[y], argTypes := ts }) (.v (.slice ad len cap)) .none (.v (.int .i64 len)) := fun x o y ho hy _ => still_rlen ho ht hy hu

theorem ix_list {t e : TypeId} {len sz j : Nat} {cs : List D} {k : IntKind} {i : Int} (hu : ∀ w, (underlying t).run P w = .ok (.slice e) w) (hs : ∀ w, (sizeOf e).run P w = .ok sz w) (hi : i = j) (hj : j < len) : R2 P G S (Op.indexAddr t) (.list sz cs len) (.v (.int k i)) .none (.iptr cs (j * sz)) := fun x o y z ho hy hz _ => still_idx ho hy hz hu hs hi hj
def Bd (x : St) (y : Option Operand) (n : Nat) : Prop := match y with | some y => ∃ (k : IntKind), opd x y = .v (.int k n) | none => True
def Rs (P : Program) (G : List (Nat × List Value)) (t : TypeId) (lo hi : Option Operand) (l h : Nat) (d0 : D) (d : D) : Prop := ∀ x o y, o.op = .slice t y lo hi none → opd x y = d0 → Bd x lo l → Bd x hi h → Still P G x o .none d
theorem still_rs {t : TypeId} {lo hi : Option Operand} {l h : Nat} {y : Operand} {d0 d : D} (ho : o.op = .slice t y lo hi none) (hy : opd x y = d0) (hl : Bd x lo l) (hh : Bd x hi h) (H : Rs P G t lo hi l h d0 d) : Still P G x o .none d := H x o y ho hy hl hh
theorem bound_of {y : Option Operand} {n df : Nat} (h : Bd x y n) (hd : y = none → n = df) : bound x y n df := by
 cases y with
 | none => exact hd rfl
 | some y => obtain ⟨k, hk⟩ := h; exact ⟨k, _, hk, rfl⟩
theorem sl_head {α : Type} {g : α → List D} {t e : TypeId} {sz h' : Nat} {lo hi : Option Operand} (hg : ∀ a, (g a).length = sz) {ls : List α} (hhi : hi = none → h' = ls.length)
  (hu : ∀ w, (underlying t).run P w = .ok (.slice e) w) (hs : ∀ w, (sizeOf e).run P w = .ok sz w) (h2 : h' ≤ ls.length) : Rs P G t lo hi 0 h' (.list sz (ls.flatMap g) ls.length) (.list sz ((ls.take h').flatMap g) (ls.take h').length) := fun x o y ho hy hl hh =>
 still_fhead hg ho hy (bound_of hl fun _ => rfl) (bound_of hh hhi) hu hs h2
theorem sl_tail {α : Type} {g : α → List D} {t e : TypeId} {sz l' : Nat} {lo : Option Operand} {ls : List α} {h' : Nat} (hh' : h' = ls.length) (hg : ∀ a, (g a).length = sz) (hlo : lo = none → l' = 0)
  (hu : ∀ w, (underlying t).run P w = .ok (.slice e) w) (hs : ∀ w, (sizeOf e).run P w = .ok sz w) (h2 : l' ≤ ls.length) : Rs P G t lo none l' h' (.list sz (ls.flatMap g) ls.length) (.list sz ((ls.drop l').flatMap g) (ls.drop l').length) := fun x o y ho hy hl hh => by
 subst hh'
 exact still_ftail hg ho hy (bound_of hl hlo) rfl hu hs h2
theorem sl_list {t e : TypeId} {sz l' h' len : Nat} {cs : List D} {lo hi : Option Operand} (hlo : lo = none → l' = 0) (hhi : hi = none → h' = len)
  (hu : ∀ w, (underlying t).run P w = .ok (.slice e) w) (hs : ∀ w, (sizeOf e).run P w = .ok sz w) (h1 : l' ≤ h') (h2 : h' ≤ len) : Rs P G t lo hi l' h' (.list sz cs len) (.list sz ((cs.drop (l' * sz)).take ((h' - l') * sz)) (h' - l')) := fun x o y ho hy hl hh =>
 still_slice ho hy (bound_of hl hlo) (bound_of hh hhi) hu hs h1 h2
theorem sl_row {t e : TypeId} {sz h' b o' len cap : Nat} {lo hi : Option Operand} (hhi : hi = none → h' = len)
  (hu : ∀ w, (underlying t).run P w = .ok (.slice e) w) (hs : ∀ w, (sizeOf e).run P w = .ok sz w) (h2 : h' ≤ cap) : Rs P G t lo hi 0 h' (.v (.slice (some ⟨b, o', none⟩) len cap)) (.v (.slice (some ⟨b, o', none⟩) h' cap)) := fun x o y ho hy hl hh =>
 still_rslice ho hy (bound_of hl fun _ => rfl) (bound_of hh hhi) hu hs h2
theorem sl_str {t : TypeId} {s : ByteArray} {l' h' : Nat} {lo hi : Option Operand} (hlo : lo = none → l' = 0) (hhi : hi = none → h' = s.size)
  (hu : ∀ w, (underlying t).run P w = .ok .string w) (h1 : l' ≤ h') (h2 : h' ≤ s.size) : Rs P G t lo hi l' h' (.v (.string s)) (.v (.string (s.extract l' h'))) := fun x o y ho hy hl hh =>
 still_sslice ho hy (bound_of hl hlo) (bound_of hh hhi) hu h1 h2

theorem OD.appendG {C : Ctx} {Q : Exit → St → Prop} {ops : Array Oper} {l : List Oper} {α : Type} {g : α → List D} {ls new : List α} {s y : Operand} {t e tt sz bytes cap : Nat} {ad : Option Addr} {z : Value} {Sq R : List Blk} (hg : ∀ a, (g a).length = sz) (hg1 : ∀ a, (g a).all one = true) (hw : Wants ops x o true) (ho : o.op = .call { callee := .builtin .append, args := #[s, y], argTypes := #[t, t] }) (hd : o.dst = some tt)
  (ht : P.underlying t = some (.slice e)) (hi : (P.info? e).map (fun i => (i.zero, i.size, i.bytes)) = some (some z, sz, bytes)) (hzs : z.cells.size = sz) (hsz : 0 < sz)
  (hs : opd x s = .v (.slice ad ls.length cap)) (ho' : OwnL e sz (ls.flatMap g) ls.length ad cap Sq) (hp : x.S.Perm (Sq ++ R))
  (hy : opd x y = .list sz (new.flatMap g) new.length) (hm : 0 < new.length) (h63 : ls.length + new.length ≤ maxLen) (hbytes : (ls.length + new.length) * bytes ≤ 140737488355328)
  (K : ∀ b' cap', (ls ++ new).length ≤ cap' → cap' ≤ maxLen → OD P C ops l ⟨x.n, (tt, .v (.slice (some ⟨b', 0, none⟩) (ls ++ new).length cap')) :: x.env, ⟨b', e, cap' * sz, (ls ++ new).flatMap g⟩ :: R⟩ Q) (hne : isMap e = false := by rfl) : OD P C ops (o :: l) x Q :=
 OD.appendOwn (hne := hne) hw ho hd ht hi hzs hsz hs ho' hp (fm_len hg ls) hy (fm_one hg1 new) hm h63 hbytes fun b' cap' h1 h2 => by
  have := K b' cap' (by rw [List.length_append]; exact h1) h2
  rw [List.length_append, List.flatMap_append] at this
  exact this

end Go.Proofs.YtjgekbmahhhokaaDoor.V

namespace Go.Proofs.YtjgekbmahhhokaaDoor.V
open Go.RowKit
set_option linter.unusedVariables false
set_option linter.unusedSimpArgs false

variable {P : Program} {C : Ctx} {G : List (Nat × List Value)} {Q : Exit → St → Prop} {x : St} {ops : Array Oper} {l : List Oper} {o : Oper} {n : Nat} {e : List (Nat × D)} {S : List Blk}

/-! ### Facts of types, told by the program itself -/
def szQ (P : Program) (t n : Nat) : Bool := match P.info? t with | some i => Nat.beq i.size n | none => false
theorem sz_of {t n : Nat} (h : szQ P t n = true) : ∀ w, (sizeOf t).run P w = .ok n w := by
 unfold szQ at h
 cases hi : P.info? t with
 | none => rw [hi] at h; cases h
 | some i =>
  rw [hi] at h
  intro w
  have := run_sizeOf (P := P) w hi
  rw [this]
  simp only [Program.cellsOf, hi, Option.map_some, Option.getD_some, Nat.eq_of_beq_eq_true h]
def agQ (P : Program) (t : Nat) (b : Bool) : Bool := match P.underlying t with
 | some (.struct _) => b
 | some (.array _ _) => b
 | some _ => !b
 | none => false
theorem ag_of {t : Nat} {b : Bool} (h : agQ P t b = true) : ∀ w, (isAgg t).run P w = .ok b w := by
 unfold agQ at h
 intro w
 cases hu : P.underlying t with
 | none => rw [hu] at h; cases h
 | some d =>
  rw [hu] at h
  have hr := run_underlying hu w
  unfold isAgg
  rw [Sem.run_bind, hr]
  cases d <;> simp only at h <;> first | (subst h; rfl) | (cases b; rfl; cases h)
def fdQ (P : Program) (s i off : Nat) : Bool := match P.underlying s with
 | some (.struct fs) => match fs[i]? with
  | some f => Nat.beq f.offset off && (match P.info? f.type with | some j => Nat.ble 1 j.size | none => false)
  | none => false
 | _ => false
theorem fd_of {s i off : Nat} (h : fdQ P s i off = true) : ∃ fs f m, (∀ w, (underlying s).run P w = .ok (.struct fs) w) ∧ fs[i]? = some f ∧ (∀ w, (sizeOf f.type).run P w = .ok (m + 1) w) ∧ f.offset = off := by
 unfold fdQ at h
 split at h
 ·rename_i fs hu
  split at h
  ·rename_i f hf
   rw [Bool.and_eq_true] at h
   obtain ⟨h1, h2⟩ := h
   split at h2
   ·rename_i j hj
    have hle := Nat.le_of_ble_eq_true h2
    refine ⟨fs, f, j.size - 1, run_underlying hu, hf, fun w => ?_, Nat.eq_of_beq_eq_true h1⟩
    have := run_sizeOf (P := P) w hj
    rw [this]
    simp only [Program.cellsOf, hj, Option.map_some, Option.getD_some]
    congr 1; omega
   cases h2
  cases h
 cases h
def slQ (P : Program) (t sz : Nat) : Bool := match P.underlying t with
 | some (.slice e) => szQ P e sz
 | _ => false
theorem sl_of {t sz : Nat} (h : slQ P t sz = true) : ∃ e, (∀ w, (underlying t).run P w = .ok (.slice e) w) ∧ ∀ w, (sizeOf e).run P w = .ok sz w := by
 unfold slQ at h
 split at h
 ·rename_i e hu; exact ⟨e, run_underlying hu, sz_of h⟩
 cases h
def isS (P : Program) (t : Nat) : Bool := match P.underlying t with
 | some (.slice _) => true
 | _ => false
theorem isS_of {t : Nat} (h : isS P t = true) : ∃ e, ∀ w, (underlying t).run P w = .ok (.slice e) w := by
 unfold isS at h
 split at h
 ·rename_i e hu; exact ⟨e, run_underlying hu⟩
 cases h

/-! ### Operations that change nothing -/
theorem mv_ {z : Operand} {d : D} (ho : o.op = .move z ∨ o.op = .assign z := by first | exact .inl rfl | exact .inr rfl) (hz : opd x z = d := by first | exact ot | exact opd_const | exact opd_func | exact opd_glob) : Still P G x o .none d := by
 rcases ho with h | h
 ·exact still_mv h hz
 exact still_as h hz
inductive FA (off : Nat) : D → D → Prop
 | p {b o' : Nat} : FA off (.v (.pointer (some ⟨b, o', none⟩))) (.v (.pointer (some ⟨b, o' + off, none⟩)))
 | i {cs : List D} {o' : Nat} : FA off (.iptr cs o') (.iptr cs (o' + off))
theorem fa_ (off : Nat) {s : TypeId} {y : Operand} {i : Nat} {d d' : D} (ho : o.op = .fieldAddr s y i := by exact rfl) (hy : opd x y = d := by first | exact ot | exact opd_glob) (hc : fdQ P s i off = true := by kernel_rfl) (h : FA off d d' := by first | exact .p | exact .i) : Still P G x o .none d' := by
 obtain ⟨fs, f, m, h1, h2, h3, h4⟩ := fd_of hc
 cases h with
 | p => exact still_field ho hy h1 h2 h3 h4
 | i => exact still_ifield ho hy h1 h2 h3 h4
theorem nc_ {y : Operand} {d : D} (ho : o.op = .nilCheck y := by exact rfl) (hy : opd x y = d := by exact ot) (h : FA 0 d d := by first | exact .p | exact .i) : Still P G x o .none d := by
 cases h with
 | p => exact still_nilCheck ho hy
 | i => exact still_nilCheckI ho hy
theorem ex_ {i : Nat} {cs : List D} {d : D} {y : Operand} (ho : o.op = .extract y i := by exact rfl) (hy : opd x y = .tup cs := by exact ot) (hd : cs[i]? = some d := by exact rfl) : Still P G x o .none d := still_extract ho hy hd
inductive LD (S : List Blk) : D → Rd → D → Prop
 | b (k : Nat) {b o' : Nat} {B : Blk} {d : D} (hk : S[k]? = some B) (hb : B.b = b) (hd : B.cs[o']? = some d) (hne : isMap B.e = false) : LD S (.v (.pointer (some ⟨b, o', none⟩))) (.blk k) d
 | m {α : Type} {g : α → List D} {sz i j : Nat} {ls : List α} {d : D} (hg : ∀ a, (g a).length = sz) (hi : i < ls.length) (hd : (g ls[i])[j]? = some d) : LD S (.iptr (ls.flatMap g) (i * sz + j)) .imm d
 | m0 {α : Type} {g : α → List D} {sz i : Nat} {ls : List α} {d : D} (hg : ∀ a, (g a).length = sz) (hi : i < ls.length) (hd : (g ls[i])[0]? = some d) : LD S (.iptr (ls.flatMap g) (i * sz)) .imm d
 | r (k : Nat) {α : Type} {g : α → List D} {b sz i j : Nat} {B : Blk} {ls : List α} {d : D} (hg : ∀ a, (g a).length = sz) (hk : S[k]? = some B) (hb : B.b = b) (hcs : B.cs = ls.flatMap g) (hi : i < ls.length) (hd : (g ls[i])[j]? = some d) (hne : isMap B.e = false) : LD S (.v (.pointer (some ⟨b, 0 + i * sz + j, none⟩))) (.blk k) d
 | r0 (k : Nat) {α : Type} {g : α → List D} {b sz i : Nat} {B : Blk} {ls : List α} {d : D} (hg : ∀ a, (g a).length = sz) (hk : S[k]? = some B) (hb : B.b = b) (hcs : B.cs = ls.flatMap g) (hi : i < ls.length) (hd : (g ls[i])[0]? = some d) (hne : isMap B.e = false) : LD S (.v (.pointer (some ⟨b, 0 + i * sz, none⟩))) (.blk k) d
 | i {o' : Nat} {cs : List D} {d : D} (hd : cs[o']? = some d) : LD S (.iptr cs o') .imm d
theorem LD.still {t : TypeId} {y : Operand} {d0 d : D} {kd : Rd} (h : LD x.S d0 kd d) (ho : o.op = .load t y) (hy : opd x y = d0) (ha : ∀ w, (isAgg t).run P w = .ok false w) : Still P G x o kd d := by
 cases h with
 | b k hk hb hd hne => exact still_load (hne := hne) ho hy hk hb ha hd
 | m hg hi hd => exact still_iload ho hy ha (fm_cell hg hi hd)
 | m0 hg hi hd => exact still_iload ho hy ha (fm_cell0 hg hi hd)
 | r k hg hk hb hcs hi hd hne => exact ld_row (hne := hne) hg hk hb hcs ha hi hd x o y ho hy rfl
 | r0 k hg hk hb hcs hi hd hne => exact ld_row0 (hne := hne) hg hk hb hcs ha hi hd x o y ho hy rfl
 | i hd => exact still_iload ho hy ha hd
theorem ld_ {t : TypeId} {y : Operand} {d0 d : D} {kd : Rd} (ho : o.op = .load t y := by exact rfl) (hy : opd x y = d0 := by exact ot) (ha : agQ P t false = true := by kernel_rfl)
  (h : LD x.S d0 kd d := by first | exact .m (by exact fun _ => rfl) (by first | assumption | omega) rfl | exact .m0 (by exact fun _ => rfl) (by first | assumption | omega) rfl | exact .b 0 rfl rfl rfl rfl | exact .b 1 rfl rfl rfl rfl | exact .b 2 rfl rfl rfl rfl | exact .b 3 rfl rfl rfl rfl | exact .b 4 rfl rfl rfl rfl | exact .i rfl | exact .r 0 (by exact fun _ => rfl) rfl rfl rfl (by first | assumption | omega) rfl rfl | exact .r0 0 (by exact fun _ => rfl) rfl rfl rfl (by first | assumption | omega) rfl rfl | exact .r 1 (by exact fun _ => rfl) rfl rfl rfl (by first | assumption | omega) rfl rfl | exact .r0 1 (by exact fun _ => rfl) rfl rfl rfl (by first | assumption | omega) rfl rfl) : Still P G x o kd d := h.still ho hy (ag_of ha)
theorem lb_ (k : Nat) {t b o' : Nat} {B : Blk} {d : D} {y : Operand} (ho : o.op = .load t y := by exact rfl) (hy : opd x y = .v (.pointer (some ⟨b, o', none⟩)) := by exact ot) (hk : x.S[k]? = some B := by exact rfl) (hb : B.b = b := by exact rfl) (ha : agQ P t false = true := by kernel_rfl) (hd : B.cs[o']? = some d := by exact rfl) (hne : isMap B.e = false := by exact rfl) : Still P G x o (.blk k) d := still_load (hne := hne) ho hy hk hb (ag_of ha) hd
inductive LA (S : List Blk) : List D → D → Rd → List D → Prop
 | b (k : Nat) {b o' : Nat} {B : Blk} {ds : List D} (hk : S[k]? = some B) (hb : B.b = b) (hd : (B.cs.drop o').take ds.length = ds) (hne : isMap B.e = false) : LA S ds (.v (.pointer (some ⟨b, o', none⟩))) (.blk k) ds
 | m {α : Type} {g : α → List D} {sz i : Nat} {ls : List α} {ds : List D} (hg : ∀ a, (g a).length = sz) (hi : i < ls.length) (hd : g ls[i] = ds) : LA S ds (.iptr (ls.flatMap g) (i * sz)) .imm (g ls[i])
 | r (k : Nat) {α : Type} {g : α → List D} {b sz i : Nat} {B : Blk} {ls : List α} {ds : List D} (hg : ∀ a, (g a).length = sz) (hk : S[k]? = some B) (hb : B.b = b) (hcs : B.cs = ls.flatMap g) (hi : i < ls.length) (hd : g ls[i] = ds) (hne : isMap B.e = false) : LA S ds (.v (.pointer (some ⟨b, 0 + i * sz, none⟩))) (.blk k) (g ls[i])
 | i {o' : Nat} {cs ds : List D} (hd : (cs.drop o').take ds.length = ds) : LA S ds (.iptr cs o') .imm ds
theorem la_ (ds : List D) {t : TypeId} {y : Operand} {d0 : D} {es : List D} {kd : Rd} (ho : o.op = .load t y := by exact rfl) (hy : opd x y = d0 := by exact ot) (ha : agQ P t true = true := by kernel_rfl)
  (h : LA x.S ds d0 kd es := by first | exact .m (by exact fun _ => rfl) (by first | assumption | omega) rfl | exact .b 0 rfl rfl rfl rfl | exact .b 1 rfl rfl rfl rfl | exact .b 2 rfl rfl rfl rfl | exact .b 3 rfl rfl rfl rfl | exact .b 4 rfl rfl rfl rfl | exact .i rfl | exact .r 0 (by exact fun _ => rfl) rfl rfl rfl (by first | assumption | omega) rfl rfl | exact .r 1 (by exact fun _ => rfl) rfl rfl rfl (by first | assumption | omega) rfl rfl | exact .r 2 (by exact fun _ => rfl) rfl rfl rfl (by first | assumption | omega) rfl rfl) (hn : szQ P t ds.length = true := by kernel_rfl) : Still P G x o kd (.agg es) := by
 have hn' := sz_of hn
 cases h with
 | b k hk hb hd hne => exact still_loads (hne := hne) ho hy hk hb (ag_of ha) hn' rfl hd
 | m hg hi hd => exact still_iloads ho hy (ag_of ha) (by rw [← hd, hg] at hn'; exact hn') (hg _) (fm_el hg hi)
 | r k hg hk hb hcs hi hd hne => exact ld_rows (hne := hne) hg hk hb hcs (ag_of ha) (by rw [← hd, hg] at hn'; exact hn') hi x o y ho hy rfl
 | i hd => exact still_iloads ho hy (ag_of ha) hn' rfl hd
theorem lab_ (k : Nat) (ds : List D) {t b o' : Nat} {B : Blk} {y : Operand} (ho : o.op = .load t y := by exact rfl) (hy : opd x y = .v (.pointer (some ⟨b, o', none⟩)) := by exact ot) (ha : agQ P t true = true := by kernel_rfl) (hk : x.S[k]? = some B := by exact rfl) (hb : B.b = b := by exact rfl) (hd : (B.cs.drop o').take ds.length = ds := by exact rfl) (hne : isMap B.e = false := by exact rfl) (hn : szQ P t ds.length = true := by kernel_rfl) : Still P G x o (.blk k) (.agg ds) := still_loads (hne := hne) ho hy hk hb (ag_of ha) (sz_of hn) rfl hd
inductive IX (sz : Nat) (i : Int) : D → D → Prop
 | l {cs : List D} {len j : Nat} (hi : i = j) (hj : j < len) : IX sz i (.list sz cs len) (.iptr cs (j * sz))
 | r {b o' len cap j : Nat} (hi : i = j) (hj : j < len) : IX sz i (.v (.slice (some ⟨b, o', none⟩) len cap)) (.v (.pointer (some ⟨b, o' + j * sz, none⟩)))
theorem ix_ (sz : Nat) {t : TypeId} {y z : Operand} {k : IntKind} {i : Int} {d d' : D} (ho : o.op = .indexAddr t y z := by exact rfl) (hy : opd x y = d := by exact ot) (hz : opd x z = .v (.int k i) := by first | exact ot | exact opd_const) (hs : slQ P t sz = true := by kernel_rfl)
  (h : IX sz i d d' := by first | exact .l rfl (by first | assumption | omega) | exact .r rfl (by first | assumption | omega) | exact .l (Int.toNat_of_nonneg (by omega)).symm (by omega) | exact .r (Int.toNat_of_nonneg (by omega)).symm (by omega)) : Still P G x o .none d' := by
 obtain ⟨e, h1, h2⟩ := sl_of hs
 cases h with
 | l hi hj => exact still_idx ho hy hz h1 h2 hi hj
 | r hi hj => exact still_ridx ho hy hz h1 h2 hi hj
theorem ln_ {t : TypeId} {y : Operand} {d : D} {m : Nat} {ts : Array TypeId} (ho : o.op = .call { callee := .builtin .len, args := #[y], argTypes := ts } := by exact rfl) (ht : ts = #[t] := by exact rfl) (hy : opd x y = d := by exact ot) (hs : isS P t = true := by kernel_rfl) (h : (∃ sz cs, d = .list sz cs m) ∨ ∃ ad cap, d = .v (.slice ad m cap) := by first | exact .inl ⟨_, _, rfl⟩ | exact .inr ⟨_, _, rfl⟩) : Still P G x o .none (.v (.int .i64 m)) := by
 obtain ⟨e, he⟩ := isS_of hs
 rcases h with ⟨sz, cs, rfl⟩ | ⟨ad, cap, rfl⟩
 ·exact still_len ho ht hy he
 exact still_rlen ho ht hy he
theorem bn_ {op : BinOp} {t t' : TypeId} {y z : Operand} {u u' r : Value} (ho : o.op = .binOp op t y z t' := by exact rfl) (hy : opd x y = .v u := by first | exact ot | exact opd_const) (hz : opd x z = .v u' := by first | exact ot | exact opd_const)
  (hb : BinOK P op t u u' r := by first | exact bin_eql | exact bin_lss | exact bin_add (wrap_i64 (by omega) (by omega)) | exact bin_sub (wrap_i64 (by omega) (by omega)) | exact bin_neq | exact bin_gtr | exact bin_leq | exact bin_geq | exact bin_mul (wrap_i64 (by omega) (by omega)) | exact bin_seql | exact bin_sneq | exact bin_slss | exact bin_sleq | exact bin_sgtr | exact bin_sgeq | exact bin_cat (by omega)) : Still P G x o .none (.v r) := still_bin ho hy hz hb
theorem un_ {t : TypeId} {y : Operand} {b : Bool} (ho : o.op = .unOp .not t y := by exact rfl) (hy : opd x y = .v (.bool b) := by exact ot) : Still P G x o .none (.v (.bool !b)) := still_un ho hy un_not
theorem pkT_ {c y z : Operand} {b : Bool} {d : D} (ho : o.op = .pick c y z := by exact rfl) (hc : opd x c = .v (.bool b) := by exact ot) (h : b = true := by first | rfl | assumption) (hd : opd x y = d := by first | exact ot | exact opd_const) : Still P G x o .none d := still_pickT ho hc h hd
theorem pkF_ {c y z : Operand} {b : Bool} {d : D} (ho : o.op = .pick c y z := by exact rfl) (hc : opd x c = .v (.bool b) := by exact ot) (h : b = false := by first | rfl | assumption) (hd : opd x z = d := by first | exact ot | exact opd_const) : Still P G x o .none d := still_pickF ho hc h hd

/-! ### Steps -/
theorem os_ {t : Nat} {d : D} {kd : Rd} (h : Still P C.G ⟨n, e, S⟩ o kd d) (K : OD P C ops l ⟨n, (t, d) :: e, S⟩ Q) (hw : Wants ops ⟨n, e, S⟩ o true := by first | exact wants_plain rfl | exact wants_T rfl rfl rfl lk (by first | rfl | assumption)) (hd : o.dst = some t := by exact rfl) : OD P C ops (o :: l) ⟨n, e, S⟩ Q := OD.still hw hd h K
theorem sk_ {t : Nat} (K : OD P C ops l ⟨n, (t, .v (.tuple #[])) :: e, S⟩ Q) (hw : Wants ops ⟨n, e, S⟩ o false := by exact wants_F rfl rfl rfl lk (by first | rfl | assumption)) (hd : o.dst = some t := by exact rfl) : OD P C ops (o :: l) ⟨n, e, S⟩ Q := OD.skip hw hd K
theorem sj_ {t : Nat} (K : OD P C ops l ⟨n, (t, .v (.tuple #[])) :: e, S⟩ Q) (hw : Wants ops ⟨n, e, S⟩ o false := by exact wants_J (b := false) rfl rfl rfl lk) (hd : o.dst = some t := by exact rfl) : OD P C ops (o :: l) ⟨n, e, S⟩ Q := OD.skip hw hd K
inductive Restr : List Nat → List (Nat × D) → List (Nat × D) → Prop
 | nil {e : List (Nat × D)} : Restr [] e []
 | cons {t : Nat} {ts : List Nat} {d : D} {e l' : List (Nat × D)} (h : look t e = d) (k : Restr ts e l') : Restr (t :: ts) e ((t, d) :: l')
theorem Restr.slots {ts : List Nat} {e l' : List (Nat × D)} (h : Restr ts e l') : Slots e l' := by
 induction h with
 | nil => trivial
 | cons h _ ih => exact ⟨h, ih⟩
theorem nm_ (ts : List Nat) {l' : List (Nat × D)} (K : Q .normal ⟨n, l', S⟩) (h : Restr ts e l' := by repeat (first | exact Restr.nil | (apply Restr.cons; focus exact lk))) : OD P C ops [] ⟨n, e, S⟩ Q := OD.wk (Wk.as_ rfl rfl h.slots) (OD.nil K)
inductive SetAt : List Blk → Nat → Blk → List Blk → Prop
 | z {B B' : Blk} {S : List Blk} : SetAt (B :: S) 0 B' (B' :: S)
 | s {A B' : Blk} {S S' : List Blk} {k : Nat} (h : SetAt S k B' S') : SetAt (A :: S) (k + 1) B' (A :: S')
theorem r1_ {fn : Func} {post : D → List Blk → Prop} {ex : Exit} {t : Nat} {d : D} (hp : post d []) (he : ex = .normal ∨ ex = .ret := by first | exact .inr rfl | exact .inl rfl) (hr : fn.results = #[.tmp t] := by exact rfl) (ht : Nat.blt t n = true := by exact rfl) (hd : look t e = d := by exact lk) : Body P fn post ex ⟨n, e, S⟩ :=
 ⟨he, d, [], List.nil_sublist _, ret_one hr (res_tmp (Nat.le_of_ble_eq_true ht) hd), hp⟩
theorem sr_ {id : Nat} {r : List Oper} {d : Code} (h : OD P C r.toArray r x (Then P C d Q)) : CD P C (.seq (.region id r.toArray false) d) x Q := CD.seq (CD.region h)
end Go.Proofs.YtjgekbmahhhokaaDoor.V

namespace Go.Proofs.YtjgekbmahhhokaaDoor.Tab
open Go.RowKit Go.ChangeShapes

theorem chunks {α : Type} {g : α → List Value} {c : Nat} : ∀ (rs : List α) (cs : List Value), cs.length = rs.length * c → (∀ i (h : i < rs.length), (cs.drop (i * c)).take c = g rs[i]) → cs = rs.flatMap g
 | [], cs, hl, _ => by
  have : cs = [] := List.length_eq_zero_iff.1 (by simpa using hl)
  simp [this]
 | r :: rs, cs, hl, h => by
  have h0 : cs.take c = g r := by
   have h1 := h 0 (by simp)
   simp only [Nat.zero_mul, List.drop_zero] at h1
   exact h1
  have ih := chunks (c := c) rs (cs.drop c) (by rw [List.length_drop, hl, List.length_cons, Nat.add_mul]; omega) (fun i hi => by
   have h1 := h (i + 1) (by simpa using hi)
   rw [List.drop_drop, show c + i * c = (i + 1) * c from by rw [Nat.add_mul]; omega]
   exact h1)
  rw [List.flatMap_cons, ← h0, ← ih, List.take_append_drop]

variable {H : Type} {enc : TypeId × Value → H} {P : Program} {w : World} {base : Nat} {sp : Nat → Bool} {held : Bool}

def Reads (enc : TypeId × Value → H) (P : Program) (w : World) (base : Nat) (sp : Nat → Bool) (held : Bool) (e : TypeId) {α : Type} (f : α → DataW H) (g : α → List Value) : Prop :=
 ∀ (fuel : Nat) (cs : List Value) (x : DataW H × List MemPlace), DataW.trod enc P w base sp held fuel e cs = some x → ∀ r, x.1 = f r → cs = g r

theorem reads_bool {e : TypeId} (he : P.underlying e = some .bool) : Reads enc P w base sp held e (fun b : Bool => .lit (.bool b)) (fun b => [.bool b]) := by
 intro fuel cs x h r hr
 obtain ⟨b, rfl, rfl⟩ := DataW.trod_bool he h
 simp at hr
 rw [hr]

theorem reads_int {e : TypeId} {k : IntKind} (he : P.underlying e = some (.int k)) : Reads enc P w base sp held e (fun b : Int => .lit (.int k b)) (fun b => [.int k b]) := by
 intro fuel cs x h r hr
 obtain ⟨b, rfl, rfl, _⟩ := DataW.trod_int he h
 simp at hr
 rw [hr]

theorem reads_string {e : TypeId} (he : P.underlying e = some .string) : Reads enc P w base sp held e (fun b : List UInt8 => .lit (.string b)) (fun b => [.string ⟨b.toArray⟩]) := by
 intro fuel cs x h r hr
 obtain ⟨s, rfl, rfl, _⟩ := DataW.trod_string he h
 simp at hr
 obtain ⟨⟨s⟩⟩ := s
 simp at hr
 rw [← hr]

theorem reads_arr {α : Type} {f : α → DataW H} {g : α → List Value} {t e : TypeId} {n : Nat} (ht : P.underlying t = some (.array n e)) (hct : P.cellsOf t = n * P.cellsOf e)
  (hin : Reads enc P w base sp held e f g) : Reads enc P w base sp held t (fun rs : List α => .agg (rs.map f)) (fun rs => rs.flatMap g) := by
 intro fuel cs x h rs hr
 obtain ⟨xs, m, _, rfl, hl, hn, hi⟩ := DataW.trod_array ht h
 simp only [DataW.agg.injEq] at hr
 have hrl : rs.length = n := by have := congrArg List.length hr; simp at this; omega
 refine chunks rs cs (by rw [hl, hct, hrl]) fun i hi' => ?_
 have h1 := hi i (by omega)
 rw [List.getElem?_eq_getElem (by omega)] at h1
 refine hin m _ _ h1 _ ?_
 have := congrArg (fun l => l[i]?) hr
 simpa [List.getElem?_eq_getElem hi', List.getElem?_eq_getElem (show i < xs.length by omega)] using this

theorem reads_four {α0 α1 α2 α3 : Type} {f0 : α0 → DataW H} {f1 : α1 → DataW H} {f2 : α2 → DataW H} {f3 : α3 → DataW H} {g0 : α0 → List Value} {g1 : α1 → List Value} {g2 : α2 → List Value} {g3 : α3 → List Value} {t : TypeId} {d0 d1 d2 d3 : Field}
  (ht : P.underlying t = some (.struct #[d0, d1, d2, d3])) (hc : P.cellsOf t = 4) (o0 : d0.offset = 0) (o1 : d1.offset = 1) (o2 : d2.offset = 2) (o3 : d3.offset = 3) (c0 : P.cellsOf d0.type = 1) (c1 : P.cellsOf d1.type = 1) (c2 : P.cellsOf d2.type = 1) (c3 : P.cellsOf d3.type = 1)
  (h0 : Reads enc P w base sp held d0.type f0 g0) (h1 : Reads enc P w base sp held d1.type f1 g1) (h2 : Reads enc P w base sp held d2.type f2 g2) (h3 : Reads enc P w base sp held d3.type f3 g3) :
  Reads enc P w base sp held t (fun r : α0 × α1 × α2 × α3 => .agg [f0 r.1, f1 r.2.1, f2 r.2.2.1, f3 r.2.2.2]) (fun r => g0 r.1 ++ (g1 r.2.1 ++ (g2 r.2.2.1 ++ g3 r.2.2.2))) := by
 intro fuel cs x h r hr
 obtain ⟨xs, m, _, rfl, hl, hn, hf⟩ := DataW.trod_struct ht h
 rw [hc] at hl
 have q0 := hf 0 d0 rfl
 have q1 := hf 1 d1 rfl
 have q2 := hf 2 d2 rfl
 have q3 := hf 3 d3 rfl
 rw [o0, c0] at q0; rw [o1, c1] at q1; rw [o2, c2] at q2; rw [o3, c3] at q3
 match xs, hn with
 | [y0, y1, y2, y3], _ =>
  simp only [DataW.agg.injEq, List.map_cons, List.map_nil, List.cons.injEq, and_true] at hr
  match cs, hl with
  | [v0, v1, v2, v3], _ =>
   have e0 := h0 m _ _ q0 _ hr.1
   have e1 := h1 m _ _ q1 _ hr.2.1
   have e2 := h2 m _ _ q2 _ hr.2.2.1
   have e3 := h3 m _ _ q3 _ hr.2.2.2
   simp only [List.drop_zero, List.drop_succ_cons, List.take_succ_cons, List.take_zero] at e0 e1 e2 e3
   show [v0, v1, v2, v3] = g0 r.1 ++ (g1 r.2.1 ++ (g2 r.2.2.1 ++ g3 r.2.2.2))
   rw [← e0, ← e1, ← e2, ← e3]; rfl

theorem var_cells {α : Type} {f : α → DataW Unit} {g : α → List Value} {W : World} {n : String} {gi : Nat} {t : TypeId} {cs : Array Value} {fuel : Nat} {p : List MemPlace} {r : α}
  (hg : P.globalNamed n = some gi) (hv : W.var? P n = some cs) (hd : DataW.trod (fun _ => ()) P W 0 (fun _ => true) false fuel t cs.toList = some (f r, p))
  (hin : Reads (fun _ => ()) P W 0 (fun _ => true) false t f g) (i : Nat) (v : Value) (hi : (g r)[i]? = some v) : W.cell? ⟨gi, i, none⟩ = some v := by
 have h := hin _ _ _ hd r rfl
 rw [World.var?_cell hg hv i, ← Array.getElem?_toList, h, hi]

def TabAt (w : World) (g : Nat) (l : List Value) : Prop := ∀ i v, l[i]? = some v → w.cell? ⟨g, i, none⟩ = some v

theorem TabAt.on {w w' : World} {g : Nat} {l : List Value} (h : TabAt w g l) (hb : Below w.heap.size w w') : TabAt w' g l :=
 fun i v hi => (hb.cell (World.block_lt_of_cell? w _ (h i v hi))).trans (h i v hi)

end Go.Proofs.YtjgekbmahhhokaaDoor.Tab

namespace Go.Proofs.YtjgekbmahhhokaaDoor.V
open Go.RowKit
set_option linter.unusedVariables false

def TabX (w : World) (g : Nat) (l : List Value) : Prop := ∀ i v, l[i]? = some v → tabCell w g i v
theorem TabX.of {w : World} {g : Nat} {l : List Value} (h : Tab.TabAt w g l) (hp : l.all plainV = true) : TabX w g l := fun i v hi => .of (h i v hi) (plain_at hp hi)
theorem VP.run {P : Program} {G : List (Nat × List Value)} {f : FuncId} {args : List D} {vs : List Value} {r : Value} {w : World} (h : VP P G f args (.v r))
  (hG : ∀ g ∈ G, g.2 ≠ [] ∧ TabX w g.1 g.2) (hr : RepL w (live (fun _ => False) []) args vs) : Calls P f vs.toArray w fun e w' => e = .returned r ∧ Below w.heap.size w w' := by
 have hp : Pre G (fun _ => False) w [] args vs := by
  refine ⟨fun _ h => h.elim, fun g hg => ⟨⟨?_, by simp [bks], fun h => h⟩, (hG g hg).2⟩, ⟨fun B hB => by simp at hB, by simp [bks]⟩, hr⟩
  obtain ⟨h1, h2⟩ := hG g hg
  cases hl : g.2 with
  | nil => exact absurd hl h1
  | cons v l => exact (h2 0 v (by rw [hl]; rfl)).lt
 refine (h _ w vs hp).mono fun e w' ⟨v, r', S', h1, ⟨h2, h3⟩, h4, h5, h6⟩ => ?_
 subst h2
 rw [h5.v_eq] at h1
 exact ⟨h1, h6.os, h6.tape, h6.output, h6.size, fun k hk => (h6.block k hk (by simp [bks])).1⟩

theorem RepL.vs (w : World) (L : Nat → Prop) (vs : List Value) : RepL w L (vs.map .v) vs := ⟨by simp, fun i h1 h2 => by rw [List.getElem_map]; exact .v _⟩
theorem wf_bd {a : Int} (h : (Lit.int .i64 a).wf = true) : -9223372036854775808 ≤ a ∧ a ≤ 9223372036854775807 := bounds_i64 h
end Go.Proofs.YtjgekbmahhhokaaDoor.V

namespace Go.Proofs.YtjgekbmahhhokaaDoor.V
open Go.RowKit
set_option linter.unusedVariables false

variable {H : Type} {enc : TypeId × Value → H} {P : Program} {w : World} {base : Nat} {sp : Nat → Bool} {held : Bool}

def Rds (enc : TypeId × Value → H) (P : Program) (w : World) (base : Nat) (sp : Nat → Bool) (held : Bool) (t : TypeId) {α : Type} (g : α → List D) (ok : α → Prop) : Prop :=
 ∀ fuel cs x, DataW.trod enc P w base sp held fuel t cs = some x → ∃ a, RepL w (fun _ => False) (g a) cs ∧ ok a

theorem Rds.map {t : TypeId} {α β : Type} {g : α → List D} {ok : α → Prop} {g' : β → List D} {ok' : β → Prop} (h : Rds enc P w base sp held t g ok) (f : α → β) (hg : ∀ a, g' (f a) = g a) (hok : ∀ a, ok a → ok' (f a)) : Rds enc P w base sp held t g' ok' := fun fuel cs x hx => by
 obtain ⟨a, h1, h2⟩ := h fuel cs x hx
 exact ⟨f a, by rw [hg]; exact h1, hok a h2⟩

theorem VP.runL {G : List (Nat × List Value)} {f : FuncId} {args : List D} {vs : List Value} {r : Value} (h : VP P G f args (.v r))
  (hG : ∀ g ∈ G, g.2 ≠ [] ∧ TabX w g.1 g.2) (hr : RepL w (fun _ => False) args vs) : Calls P f vs.toArray w fun e w' => e = .returned r ∧ Below w.heap.size w w' :=
 h.run hG (hr.mono fun b _ _ => ⟨rfl, fun hl => by rcases hl with hl | hl; exact hl; simp [bks] at hl⟩)

end Go.Proofs.YtjgekbmahhhokaaDoor.V

namespace Go.Proofs.YtjgekbmahhhokaaDoor.V
open Go.RowKit
set_option linter.unusedVariables false
set_option linter.unusedSimpArgs false

variable {P : Program} {C : Ctx} {G : List (Nat × List Value)} {Q : Exit → St → Prop} {x : St} {ops : Array Oper} {l : List Oper} {o : Oper} {S1 T : List Nat} {fuel i : Nat} {ld : Array Bool}

theorem setAll_eq : ∀ (ds cs : List D) (off : Nat), off + ds.length ≤ cs.length → setAll cs off ds = cs.take off ++ ds ++ cs.drop (off + ds.length)
 | [], cs, off, h => by simp [setAll]
 | d :: ds, cs, off, h => by
  simp only [List.length_cons] at h
  have e : cs.set off d = (cs.take off ++ [d]) ++ cs.drop (off + 1) := by rw [List.set_eq_take_append_cons_drop, if_pos (by omega)]; simp
  have hl : (cs.take off ++ [d]).length = off + 1 := by simp; omega
  rw [setAll, setAll_eq ds _ (off + 1) (by simp; omega), e, List.take_left' hl, ← List.drop_drop, List.drop_left' hl, List.drop_drop]
  simp only [List.append_assoc, List.cons_append, List.nil_append, List.length_cons]
  congr 4
  omega

theorem Wk.recs {n : Nat} {l : List (Nat × D)} {S : List Blk} {k : Nat} {B : Blk} {cs' : List D} (hk : S[k]? = some B) (hl : cs'.length ≤ B.size) (hc : ∀ (i : Nat) (d : D), cs'[i]? = some d → B.cs[i]? = some d ∨ d = D.junk) : Wk ⟨n, l, S⟩ ⟨n, l, S.set k { B with cs := cs' }⟩ := fun C a w h => by
 have hkl := (List.getElem?_eq_some_iff.1 hk).1
 have hkB := (List.getElem?_eq_some_iff.1 hk).2
 have hbks : bks (S.set k { B with cs := cs' }) = bks S := by
  unfold bks
  rw [List.map_set]
  apply List.ext_getElem (by simp)
  intro i q1 q2
  rw [List.getElem_set]
  split
  ·rename_i e; subst e; simp [hkB]
  rfl
 have hlive : live C.X (S.set k { B with cs := cs' }) = live C.X S := by funext b; simp only [live, hbks]
 refine ⟨h.defers, h.size, fun t ht => ?_, ⟨fun B' hB' => ?_, ?_⟩, ?_, h.ex, h.tab⟩
 ·simp only [hlive]; exact h.env t ht
 ·simp only [hlive]
  obtain ⟨j, hj, hje⟩ := List.mem_iff_getElem.1 hB'
  rw [List.length_set] at hj
  rw [List.getElem_set] at hje
  by_cases e : k = j
  ·rw [if_pos e] at hje
   subst hje
   obtain ⟨r0, cur, r1, r2, r3, r4⟩ := h.own.at_ B (List.mem_of_getElem? hk)
   refine ⟨r0, cur, r1, r2, hl, fun i hi => ?_⟩
   simp only at hi hl
   have hi2 : i < cur.size := by omega
   rcases hc i _ (List.getElem?_eq_getElem hi) with hd | hd
   ·obtain ⟨hd1, hd2⟩ := List.getElem?_eq_some_iff.1 hd
    obtain ⟨u, hu, hq⟩ := r4 i hd1
    rw [hd2] at hq
    exact ⟨u, hu, hq⟩
   exact ⟨cur[i], by simp [hi2], by simp only [hd]; exact .junk _⟩
  rw [if_neg e] at hje
  subst hje
  exact h.own.at_ _ (List.getElem_mem hj)
 ·simp only [hbks]; exact h.own.apart
 simp only [hbks]; exact h.fr

theorem OD.recs {k : Nat} {B : Blk} {cs' : List D} (hk : x.S[k]? = some B) (hl : cs'.length ≤ B.size) (hc : ∀ (i : Nat) (d : D), cs'[i]? = some d → B.cs[i]? = some d ∨ d = D.junk) (K : OD P C ops l ⟨x.n, x.env, x.S.set k { B with cs := cs' }⟩ Q) : OD P C ops l x Q := OD.wk (Wk.recs hk hl hc) K

/-! ### A slice of a row of one's own -/

/-! ### append within a row -/

/-! ### clear, behind what is known -/

theorem eff_clear {s : Operand} {t e sz n b k o' c : Nat} {z : Value} {B : Blk} (ho : o.op = .call { callee := .builtin .clear, args := #[s], argTypes := #[t] }) (hd : o.dst = none)
  (ht : P.underlying t = some (.slice e)) (hz : ∀ w, (zeroValue e).run P w = .ok z w) (hzs : z.cells.size = sz) (hz1 : z.cells.all (fun v => v.oneCell') = true)
  (hs : opd x s = .v (.slice (some ⟨b, o', none⟩) n c)) (hk : x.S[k]? = some B) (hb : B.b = b) (hcl : 0 < n → B.cs.length ≤ o' ∧ o' + n * sz ≤ B.size) (hne : isMap B.e = false := by rfl) :
  Eff P G x o [b] (fun y => y = x) := fun C a w K Q hG h hK => by
 subst hb
 have hun : ∀ {w' : World}, (Builtin.clear_ #[t] o.type #[a.eval s]).run P w = .ok (.tuple #[]) w' → (execOp a.eval o).run P w = .ok (.value (.tuple #[])) w' := fun hr => by
  unfold execOp
  simp [ho, resolve, invoke, builtin, hr]
 rcases Nat.eq_zero_or_pos n with rfl | hn
 ·have hrun : (Builtin.clear_ #[t] o.type #[a.eval s]).run P w = .ok (.tuple #[]) w := by
   rw [h.flat hs]
   simp [Builtin.clear_, run_underlying ht]
  unfold Oper.wp
  rw [hun hrun, Oper.upon_value, hd]
  exact hK _ _ _ rfl h ⟨Nat.le_refl _, fun _ _ _ => rfl⟩ (Fr.refl _ _)
 obtain ⟨hc1, hc2⟩ := hcl hn
 let vs := (Builtin.zeroCells z.cells n).toList
 have hvl : vs.length = n * sz := by simp [vs, size_zeroCells, hzs]
 have hv1 : ∀ v ∈ vs, v.oneCell' = true := fun v hv => by
  simp only [vs, Builtin.zeroCells, Array.toList_map, List.mem_map] at hv
  obtain ⟨j, hj, rfl⟩ := hv
  have hj' : j < n * z.cells.size := by simpa using hj
  have h0 : 0 < z.cells.size := by
   rcases Nat.eq_zero_or_pos z.cells.size with h0 | h0
   ·rw [h0] at hj'; simp at hj'
   exact h0
  have hlt := Nat.mod_lt j h0
  have := Array.all_eq_true.1 hz1 _ hlt
  rw [getElem!_pos z.cells _ hlt]; exact this
 obtain ⟨h0, cur, q1, q2, q3, q4⟩ := h.blk hk
 rw [ob_cells hne] at q1
 have hst := run_storeCells_cells (P := P) B.b o' vs 0 w (fun j hj => by
   have : (o' + 0 + j) < cur.size := by omega
   rw [cell_blk q1 (u := cur[o' + 0 + j]) (by simp [this])]; rfl) (fun j hj => by unfold World.frozen?; simp [q1]) hv1
 have hrun : (Builtin.clear_ #[t] o.type #[a.eval s]).run P w = .ok (.tuple #[]) (w.setCells B.b o' vs) := by
  rw [h.flat hs]
  obtain ⟨m, rfl⟩ : ∃ m, n = m + 1 := ⟨n - 1, by omega⟩
  simp only [Nat.add_zero] at hst
  simp [Builtin.clear_, run_underlying ht, hz, vs, hst]
 have hkl := (List.getElem?_eq_some_iff.1 hk).1
 have hkB := (List.getElem?_eq_some_iff.1 hk).2
 -- widened, stored, and forgotten again
 let cw := B.cs ++ List.replicate (B.size - B.cs.length) D.junk
 have hw := Wk.recs (n := x.n) (l := x.env) (cs' := cw) hk (by simp [cw]; omega) (fun i d hid => by
  rcases Nat.lt_or_ge i B.cs.length with hi | hi
  ·left; rw [← hid]; simp only [cw]; rw [List.getElem?_append_left hi]
  right
  simp only [cw] at hid
  rw [List.getElem?_append_right hi] at hid
  exact List.eq_of_mem_replicate (List.mem_of_getElem? hid)) C a w h
 have hk2 : (⟨x.n, x.env, x.S.set k { B with cs := cw }⟩ : St).S[k]? = some { B with cs := cw } := by simp [hkl]
 have hjr : RepL w (live C.X (⟨x.n, x.env, x.S.set k { B with cs := cw }⟩ : St).S) (List.replicate (n * sz) D.junk) vs := ⟨by simp [hvl], fun j h1 h2 => by rw [List.getElem_replicate]; exact .junk _⟩
 obtain ⟨s1, s2, s3⟩ := hw.store (hne := hne) hk2 hjr (o' := o') (by simp [cw]; omega)
 have hset : setAll cw o' (List.replicate (n * sz) D.junk) = cw.take o' ++ List.replicate (n * sz) D.junk ++ cw.drop (o' + n * sz) := by
  rw [setAll_eq _ _ _ (by simp [cw]; omega), List.length_replicate]
 have hk3 : (x.S.set k { B with cs := setAll cw o' (List.replicate (n * sz) D.junk) })[k]? = some { B with cs := setAll cw o' (List.replicate (n * sz) D.junk) } := by simp [hkl]
 have h1 : Sim C ⟨x.n, x.env, x.S.set k { B with cs := setAll cw o' (List.replicate (n * sz) D.junk) }⟩ a (w.setCells B.b o' vs) := by simpa [List.set_set] using s1
 have h2 := Wk.recs (n := x.n) (l := x.env) (cs' := B.cs) hk3 (by simpa using q3) (fun i d hid => by
  left
  have hi := (List.getElem?_eq_some_iff.1 hid).1
  simp only [hset]
  rw [List.append_assoc, List.getElem?_append_left (by simp [cw]; omega), List.getElem?_take, if_pos (by omega)]
  simp only [cw]
  rw [List.getElem?_append_left hi, hid]) C a _ h1
 have hx : (⟨x.n, x.env, (x.S.set k { B with cs := setAll cw o' (List.replicate (n * sz) D.junk) }).set k { B with cs := B.cs }⟩ : St) = x := by
  rw [List.set_set]
  have : x.S.set k { B with cs := B.cs } = x.S := by
   apply List.ext_getElem (by simp)
   intro i q1 q2
   rw [List.getElem_set]
   split
   ·rename_i e; subst e; exact hkB.symm
   rfl
  rw [this]
 have hbk : ∀ cs1 : List D, bks (x.S.set k { B with cs := cs1 }) = bks x.S := fun cs1 => by
  unfold bks
  rw [List.map_set]
  apply List.ext_getElem (by simp)
  intro i q1 q2
  rw [List.getElem_set]
  split
  ·rename_i e; subst e; simp [hkB]
  rfl
 have h3 : Sim C x a (w.setCells B.b o' vs) := by
  have h2' := h2
  simp only at h2'
  rw [hx] at h2'
  exact h2'
 simp only [List.set_set, hbk] at s3
 unfold Oper.wp
 rw [hun hrun, Oper.upon_value, hd]
 exact hK _ _ _ rfl h3 s2 s3

theorem OD.clear {s : Operand} {t e sz n b k o' c : Nat} {z : Value} {B : Blk} (hw : Wants ops x o true) (ho : o.op = .call { callee := .builtin .clear, args := #[s], argTypes := #[t] }) (hd : o.dst = none)
  (ht : P.underlying t = some (.slice e)) (hz : ∀ w, (zeroValue e).run P w = .ok z w) (hzs : z.cells.size = sz) (hz1 : z.cells.all (fun v => v.oneCell') = true)
  (hs : opd x s = .v (.slice (some ⟨b, o', none⟩) n c)) (hk : x.S[k]? = some B) (hb : B.b = b) (hcl : 0 < n → B.cs.length ≤ o' ∧ o' + n * sz ≤ B.size) (K : OD P C ops l x Q) (hne : isMap B.e = false := by rfl) : OD P C ops (o :: l) x Q :=
 OD.eff hw (eff_clear (hne := hne) ho hd ht hz hzs hz1 hs hk hb hcl) fun y hy => hy ▸ K

/-! ### A call that looks at rows of one's own and keeps other blocks as they are -/

def LooksR (x : St) (R : List Blk) : List Operand → List D → Prop
 | [], [] => True
 | o :: r, d :: r' => (∃ d0, opd x o = d0 ∧ View R d0 d) ∧ LooksR x R r r'
 | _, _ => False

theorem LooksR.rep {C : Ctx} {a : Act} {w : World} (h : Sim C x a w) {X Y : Nat → Prop} {R : List Blk} (hY : ∀ b, Y b → X b) (hX : ∀ b, X b → b ∉ bks R) (ho : Own w (live X R) R) (hl : live C.X x.S = live X R) : ∀ {os : List Operand} {ds : List D}, LooksR x R os ds → RepL w Y ds (os.map a.eval)
 | [], [], _ => ⟨rfl, fun i h => by simp at h⟩
 | o :: r, d :: r', ⟨⟨d0, h1, h2⟩, h3⟩ => RepL.cons (h2 X Y w _ hY hX ho (hl ▸ h1 ▸ h.eval o)) (LooksR.rep h hY hX ho hl h3)
 | [], _ :: _, h => h.elim
 | _ :: _, [], h => h.elim

/-! ### The same blocks in another order: by counting -/

theorem NP.norm {Φ : St → Prop} : NP (fun e y => e = Exit.normal ∧ Φ y) := fun c y t hq => by cases hq.1

end Go.Proofs.YtjgekbmahhhokaaDoor.V

namespace Go.Proofs.YtjgekbmahhhokaaDoor.V
open Go.RowKit
set_option linter.unusedVariables false
set_option linter.unusedSimpArgs false

variable {P : Program} {C : Ctx} {G : List (Nat × List Value)} {Q : Exit → St → Prop} {x : St} {ops : Array Oper} {l : List Oper} {o : Oper}

theorem ownL_nil {e sz : Nat} {α : Type} {g : α → List D} : OwnL e sz (([] : List α).flatMap g) ([] : List α).length none 0 [] := .inl ⟨rfl, rfl, rfl, rfl, rfl⟩
theorem OwnL.cast {e sz cap : Nat} {α : Type} {g : α → List D} {ls ls' : List α} {ad : Option Addr} {S : List Blk} (h : OwnL e sz (ls.flatMap g) ls.length ad cap S) (he : ls = ls') : OwnL e sz (ls'.flatMap g) ls'.length ad cap S := he ▸ h
theorem ownL_row {e sz b cap : Nat} {α : Type} {g : α → List D} {ls : List α} (h1 : ls.length ≤ cap) (h2 : cap ≤ maxLen) : OwnL e sz (ls.flatMap g) ls.length (some ⟨b, 0, none⟩) cap [⟨b, e, cap * sz, ls.flatMap g⟩] := .inr ⟨b, rfl, h1, h2, rfl⟩

def RetL {α : Type} (g : α → List D) (e sz : Nat) (ls : List α) (r : D) (S : List Blk) : Prop := ∃ ad cap, r = .v (.slice ad ls.length cap) ∧ OwnL e sz (ls.flatMap g) ls.length ad cap S

theorem VC.post {f : FuncId} {args : List D} {S : List Blk} {post post' : D → List Blk → Prop} (h : VC P G f args S post) (k : ∀ r S', post r S' → post' r S') : VC P G f args S post' := fun X w vs hp =>
 (h X w vs hp).mono fun e w' ⟨v, r, S', h1, h2, h3⟩ => ⟨v, r, S', h1, k _ _ h2, h3⟩

theorem Wk.giveL {n t m cap e sz : Nat} {l : List (Nat × D)} {S Sq R : List Blk} {cs : List D} {ad : Option Addr} (ht : look t l = .v (.slice ad m cap)) (ho : OwnL e sz cs m ad cap Sq) (hl : cs.length = m * sz) (hp : S.Perm (Sq ++ R)) (hne : isMap e = false := by rfl) : Wk ⟨n, l, S⟩ ⟨n, (t, .list sz cs m) :: l, R⟩ := by
 refine (Wk.perm hp).trans ?_
 rcases ho with ⟨rfl, rfl, rfl, rfl, rfl⟩ | ⟨b, rfl, h1, h2, rfl⟩
 ·exact Wk.giveNil ht
 exact Wk.give (hne := hne) (k := 0) rfl ht rfl hl h1 h2

theorem OD.giveL {t m cap e sz : Nat} {Sq R : List Blk} {cs : List D} {ad : Option Addr} (ht : V.look t x.env = .v (.slice ad m cap)) (ho : OwnL e sz cs m ad cap Sq) (hl : cs.length = m * sz) (hp : x.S.Perm (Sq ++ R)) (K : OD P C ops l ⟨x.n, (t, .list sz cs m) :: x.env, R⟩ Q) (hne : isMap e = false := by rfl) : OD P C ops l x Q :=
 OD.wk (Wk.giveL (hne := hne) (n := x.n) (S := x.S) ht ho hl hp) K
theorem CD.giveL {c : Code} {t m cap e sz : Nat} {Sq R : List Blk} {cs : List D} {ad : Option Addr} (ht : V.look t x.env = .v (.slice ad m cap)) (ho : OwnL e sz cs m ad cap Sq) (hl : cs.length = m * sz) (hp : x.S.Perm (Sq ++ R)) (K : CD P C c ⟨x.n, (t, .list sz cs m) :: x.env, R⟩ Q) (hne : isMap e = false := by rfl) : CD P C c x Q :=
 CD.wk (Wk.giveL (hne := hne) (n := x.n) (S := x.S) ht ho hl hp) K

theorem RetL.mk {α : Type} {g : α → List D} {e sz cap : Nat} {ls : List α} {ad : Option Addr} {S : List Blk} (h : OwnL e sz (ls.flatMap g) ls.length ad cap S) : RetL g e sz ls (.v (.slice ad ls.length cap)) S := ⟨ad, cap, rfl, h⟩
theorem RetL.cast {α : Type} {g : α → List D} {e sz : Nat} {ls ls' : List α} {r : D} {S : List Blk} (h : RetL g e sz ls r S) (he : ls = ls') : RetL g e sz ls' r S := he ▸ h

theorem row_eq {α : Type} {cap : Nat} {ls ls' : List α} {ad : Option Addr} (h : ls = ls') : D.v (.slice ad ls.length cap) = D.v (.slice ad ls'.length cap) := by rw [h]

/-! One row among those at hand: ahead of all, and back. -/
theorem perm_r11 {A S1 : List Blk} : (A ++ S1).Perm (S1 ++ A) := List.perm_append_comm
theorem perm_q11 {A S1 : List Blk} : (S1 ++ A).Perm (A ++ S1) := perm_r11.symm
/-! ### A string appended to bytes -/

theorem OD.appendAny {α : Type} {g : α → List D} {ls new : List α} {s y : Operand} {t e tt sz bytes cap : Nat} {ad : Option Addr} {z : Value} {Sq R : List Blk} (hg : ∀ a, (g a).length = sz) (hg1 : ∀ a, (g a).all one = true) (hw : Wants ops x o true) (ho : o.op = .call { callee := .builtin .append, args := #[s, y], argTypes := #[t, t] }) (hd : o.dst = some tt)
  (ht : P.underlying t = some (.slice e)) (hi : (P.info? e).map (fun i => (i.zero, i.size, i.bytes)) = some (some z, sz, bytes)) (hzs : z.cells.size = sz) (hsz : 0 < sz) (hu : ∀ w, (underlying t).run P w = .ok (.slice e) w) (hse : ∀ w, (sizeOf e).run P w = .ok sz w)
  (hs : opd x s = .v (.slice ad ls.length cap)) (ho' : OwnL e sz (ls.flatMap g) ls.length ad cap Sq) (hp : x.S.Perm (Sq ++ R))
  (hy : opd x y = .list sz (new.flatMap g) new.length) (h63 : ls.length + new.length ≤ maxLen) (hbytes : (ls.length + new.length) * bytes ≤ 140737488355328)
  (K : ∀ ad' cap' S', OwnL e sz ((ls ++ new).flatMap g) (ls ++ new).length ad' cap' S' → OD P C ops l ⟨x.n, (tt, .v (.slice ad' (ls ++ new).length cap')) :: x.env, S' ++ R⟩ Q) (hne : isMap e = false := by rfl) : OD P C ops (o :: l) x Q := by
 rcases Nat.eq_zero_or_pos new.length with h0 | h0
 ·have hn : new = [] := List.eq_nil_of_length_eq_zero h0
  subst hn
  refine OD.still hw hd (still_append0 ho hu hse hs ho'.le hy) ?_
  have := K ad cap Sq (by rw [List.append_nil]; exact ho')
  rw [List.append_nil] at this
  exact OD.wk (Wk.perm (n := x.n) hp) this
 exact OD.appendG (hne := hne) hg hg1 hw ho hd ht hi hzs hsz hs ho' hp hy h0 h63 hbytes fun b' cap' h1 h2 => K _ cap' _ (ownL_row h1 h2)

/-! ### A table as a list -/

theorem still_tslice {t e : TypeId} {b n sz : Nat} {vs : List Value} {y : Operand} (ho : o.op = .slice t y none none none) (hy : opd x y = .v (.pointer (some ⟨b, 0, none⟩))) (hg : (b, vs) ∈ G)
  (hu : ∀ w, (underlying t).run P w = .ok (.array n e) w) (hs : ∀ w, (sizeOf e).run P w = .ok sz w) (hl : vs.length = n * sz) (hn : n ≠ 0) (hn2 : n ≤ maxLen) (hpv : vs.all plainV = true := by rfl) : Still P G x o .none (.list sz (vs.map .v) n) := fun C a w hG h => by
 subst hG
 obtain ⟨⟨q1, q2, q3⟩, q4⟩ := h.tab _ hg
 refine ⟨.slice (some ⟨b, 0, none⟩) n n, .list sz (vs.map .v) n b 0 n (fun i => vs.getD i undef) (by simpa using hl) (Nat.le_refl _) hn2 (Nat.lt_of_lt_of_le q1 h.fr.size) (fun hl => hl.elim q3 (h.fr.block b q1 q2).2) (fun i hi => ?_) (fun i hi => ?_), fun w' _ => ?_⟩
 ·have hi' : i < vs.length := by simpa using hi
  have := (h.tabAt hg (List.getElem?_eq_getElem hi')).cell (plain_at hpv (List.getElem?_eq_getElem hi'))
  rw [Nat.zero_add, this]
  simp [hi']
 ·have hi' : i < vs.length := by simpa using hi
  simp only [List.getElem_map, List.getD_eq_getElem?_getD, List.getElem?_eq_getElem hi', Option.getD_some]
  exact .v _
 unfold execOp
 have b3 : (Instr.sliceBounds false n n none none none).run P w' = .ok (0, n, n) w' := by unfold Instr.sliceBounds; simp
 simp only [ho, h.flat hy, Instr.sliceAt, hu, Instr.sureAddr, Sem.run_bind, Result.andThen_ok, Option.map_none, Sem.run_pure, b3, hs, Nat.sub_zero]
 rw [if_neg hn]
 simp [Addr.add_mid]

theorem sl_tabG {α : Type} {g : α → List D} {ls : List α} {t e : TypeId} {b n sz l' h' : Nat} {vs : List Value} (hg : (b, vs) ∈ G) (hv : vs.map D.v = ls.flatMap g) (hn' : n = ls.length)
  (hu : ∀ w, (underlying t).run P w = .ok (.array n e) w) (hs : ∀ w, (sizeOf e).run P w = .ok sz w) (hl : vs.length = n * sz) (hn : n ≠ 0) (hn2 : n ≤ maxLen) (hpv : vs.all plainV = true := by rfl) : Rs P G t none none l' h' (.v (.pointer (some ⟨b, 0, none⟩))) (.list sz (ls.flatMap g) ls.length) := fun x o y ho hy _ _ => by
 have := still_tslice (P := P) (G := G) ho hy hg hu hs hl hn hn2 hpv
 rw [hv, hn'] at this
 exact this

/-! ### Bytes, strings -/

theorem vb {x y : Bool} (h : x = y) : D.v (.bool x) = D.v (.bool y) := by rw [h]
theorem vi {k : IntKind} {x y : Int} (h : x = y) : D.v (.int k x) = D.v (.int k y) := by rw [h]
theorem vs {x y : ByteArray} (h : x = y) : D.v (.string x) = D.v (.string y) := by rw [h]

def cB (b : UInt8) : List D := [byteD b]
theorem cB_len (b : UInt8) : (cB b).length = 1 := rfl
theorem cB_one (b : UInt8) : (cB b).all one = true := rfl
theorem cB_map (bs : List UInt8) : bs.flatMap cB = bs.map byteD := by
 induction bs with
 | nil => rfl
 | cons a r ih => rw [List.flatMap_cons, ih]; rfl
def cS (s : ByteArray) : List D := [.v (.string s)]
theorem cS_len (s : ByteArray) : (cS s).length = 1 := rfl
theorem cS_one (s : ByteArray) : (cS s).all one = true := rfl

theorem still_ofBytesF {s t e : TypeId} {y : Operand} {bs : List UInt8} {n : Nat} (ho : o.op = .convert s t y) (hy : opd x y = .list 1 (bs.flatMap cB) n) (hs : P.underlying s = some (.slice e)) (he : P.underlying e = some (.int .u8)) (ht : P.underlying t = some .string) :
  Still P G x o .imm (.v (.string ⟨bs.toArray⟩)) := still_ofBytes ho (by rw [hy, cB_map]) hs he ht

def byteAt (s : ByteArray) (k : Nat) : UInt8 := s.data.toList.getD k 0
theorem str_at {s : ByteArray} {k : Nat} (h : k < s.size) : s[k]? = some (byteAt s k) := by
 have h' : k < s.data.size := h
 rw [getElem?_pos s k h]
 congr 1
 show s.data[k] = _
 simp only [byteAt, List.getD_eq_getElem?_getD, Array.getElem?_toList, Array.getElem?_eq_getElem h', Option.getD_some]
theorem str_len (s : ByteArray) : s.data.toList.length = s.size := by rw [Array.length_toList]; rfl
theorem str_list (s : ByteArray) : s.toList = s.data.toList := by rw [ByteArray.toList_eq]
theorem byteAt_get {s : ByteArray} {k : Nat} (h : k < s.data.toList.length) : s.data.toList[k] = byteAt s k := by simp only [byteAt, List.getD_eq_getElem?_getD, List.getElem?_eq_getElem h, Option.getD_some]
theorem str_ne {s : ByteArray} (h : (!(s.toList == (⟨#[]⟩ : ByteArray).toList)) = true) : 0 < s.size := by
 rcases Nat.eq_zero_or_pos s.size with h0 | h0
 ·have : s.data.toList = [] := List.eq_nil_of_length_eq_zero (by rw [str_len, h0])
  rw [str_list, str_list, this] at h
  cases h
 exact h0
theorem str_eq0 {s : ByteArray} : (s.toList == (⟨#[]⟩ : ByteArray).toList) = decide (s.size = 0) := by
 rw [Bool.eq_iff_iff, beq_iff_eq, decide_eq_true_eq, str_list, str_list, ← str_len]
 exact ⟨fun h => by rw [h]; rfl, fun h => List.eq_nil_of_length_eq_zero h⟩
theorem str_ext {s t : ByteArray} (h : s.data.toList = t.data.toList) : s = t := by
 obtain ⟨⟨a⟩⟩ := s; obtain ⟨⟨b⟩⟩ := t; simp only at h; rw [h]
def eqS (a b : ByteArray) : Bool := a.toList == b.toList
/-! ### The first place where something holds -/

def idxG {α : Type} (p : α → Bool) (ls : List α) : Int := match ls.findIdx? p with | some i => i | none => -1
theorem idxG_hit {α : Type} {p : α → Bool} {ls : List α} {k : Nat} (hk : k < ls.length) (h0 : ∀ x ∈ ls.take k, p x = false) (h1 : p ls[k] = true) : idxG p ls = k := by
 have : ls.findIdx? p = some k := by
  rw [List.findIdx?_eq_some_iff_getElem]
  refine ⟨hk, h1, fun j hj => ?_⟩
  have := h0 ls[j] (List.mem_take_iff_getElem.2 ⟨j, by omega, rfl⟩)
  simp [this]
 simp [idxG, this]
theorem idxG_none {α : Type} {p : α → Bool} {ls : List α} {k : Nat} (hk : ¬ (k < ls.length)) (h0 : ∀ x ∈ ls.take k, p x = false) : idxG p ls = -1 := by
 have : ls.findIdx? p = none := by
  rw [List.findIdx?_eq_none_iff]
  intro x hx
  rw [List.take_of_length_le (by omega)] at h0
  exact h0 x hx
 simp [idxG, this]
theorem idxG_any {α : Type} {p : α → Bool} {ls : List α} : decide (idxG p ls ≥ 0) = ls.any p := by
 unfold idxG
 cases h : ls.findIdx? p with
 | none =>
  have := List.findIdx?_eq_none_iff.1 h
  simp; exact this
 | some i =>
  obtain ⟨h1, h2, _⟩ := List.findIdx?_eq_some_iff_getElem.1 h
  simp only [ge_iff_le, Int.natCast_nonneg, decide_true]
  exact (List.any_eq_true.2 ⟨_, List.getElem_mem h1, h2⟩).symm
theorem all_step {α : Type} {p : α → Prop} {ls : List α} {k : Nat} (hk : k < ls.length) (h0 : ∀ x ∈ ls.take k, p x) (h1 : p ls[k]) : ∀ x ∈ ls.take (k + 1), p x := by
 rw [List.take_succ_eq_append_getElem hk]
 intro x hx
 rcases List.mem_append.1 hx with hx | hx
 ·exact h0 x hx
 simp only [List.mem_singleton] at hx; subst hx; exact h1

end Go.Proofs.YtjgekbmahhhokaaDoor.V

namespace Go.Proofs.YtjgekbmahhhokaaDoor.V
end Go.Proofs.YtjgekbmahhhokaaDoor.V


namespace Go.Proofs.YtjgekbmahhhokaaDoor.V
open Go.RowKit
set_option linter.unusedVariables false
set_option linter.unusedSimpArgs false

variable {P : Program} {C : Ctx} {G : List (Nat × List Value)} {Q : Exit → St → Prop} {x : St} {ops : Array Oper} {l : List Oper} {o : Oper} {S1 T : List Nat} {fuel i : Nat} {ld : Array Bool}

def ToL : List D → List D → Prop
 | [], [] => True
 | a :: l, b :: l' => (a = b ∨ ∃ sz, a = .v (.slice none 0 0) ∧ b = .list sz [] 0) ∧ ToL l l'
 | _, _ => False
theorem ToL.rep {w : World} {L : Nat → Prop} : ∀ {a b : List D} {vs : List Value}, ToL a b → RepL w L a vs → RepL w L b vs
 | [], [], _, _, h => h
 | a :: l, b :: l', [], _, h => by simp [RepL] at h
 | a :: l, b :: l', v :: vs, ⟨k, t⟩, h => by
  obtain ⟨h0, h1⟩ := h.tail
  have h2 := ToL.rep t h1
  refine ⟨by have := h2.1; simp [this], fun i q1 q2 => ?_⟩
  cases i with
  | zero =>
   rcases k with rfl | ⟨sz, rfl, rfl⟩
   ·exact h0
   show Rep w L (.list sz [] 0) v
   rw [h0.v_eq]; exact .void sz none 0
  | succ i => exact h2.2 i (by simpa using q1) (by simpa using q2)
theorem VC.to {f : FuncId} {args args' : List D} {S : List Blk} {post : D → List Blk → Prop} (h : VC P G f args S post) (k : ToL args' args) : VC P G f args' S post := fun X w vs hp => h X w vs ⟨hp.ex, hp.tab, hp.own, k.rep hp.args⟩

end Go.Proofs.YtjgekbmahhhokaaDoor.V

namespace Go.Proofs.YtjgekbmahhhokaaDoor.V
open Go.RowKit
set_option linter.unusedVariables false
set_option linter.unusedSimpArgs false

variable {P : Program} {C : Ctx} {G : List (Nat × List Value)} {Q : Exit → St → Prop} {x : St} {ops : Array Oper} {l : List Oper} {o : Oper} {S1 T : List Nat} {fuel i : Nat} {ld : Array Bool}

theorem Views.append {S : List Blk} : ∀ {a b c d : List D}, Views S a b → Views S c d → Views S (a ++ c) (b ++ d)
 | [], [], _, _, _, h => h
 | _ :: _, _ :: _, _, _, h, k => ⟨h.1, Views.append h.2 k⟩
 | [], _ :: _, _, _, h, _ => h.elim
 | _ :: _, [], _, _, h, _ => h.elim

theorem Views.same {S : List Blk} : ∀ {a : List D}, Views S a a
 | [] => trivial
 | _ :: _ => ⟨view_same, Views.same⟩

/-! ### Rows in rows: each element has its cells and its blocks -/
inductive RwsI {α : Type} (V : α → List D → List Blk → Prop) : List α → List D → List Blk → Prop
 | nil : RwsI V [] [] []
 | cons {a : α} {c : List D} {Sa : List Blk} {ls : List α} {cs : List D} {S : List Blk} (h : V a c Sa) (t : RwsI V ls cs S) : RwsI V (a :: ls) (c ++ cs) (Sa ++ S)

def Rws {α : Type} (V : α → List D → List Blk → Prop) (ls : List α) (cs : List D) (S : List Blk) : Prop := ∃ S0, RwsI V ls cs S0 ∧ S.Perm S0

variable {α : Type} {V : α → List D → List Blk → Prop}

theorem Rws.nil : Rws V [] [] [] := ⟨[], .nil, .refl _⟩
theorem Rws.perm {ls : List α} {cs : List D} {S S' : List Blk} (h : Rws V ls cs S) (p : S'.Perm S) : Rws V ls cs S' := let ⟨S0, h1, h2⟩ := h; ⟨S0, h1, p.trans h2⟩

theorem RwsI.len {sz : Nat} (hn : ∀ a c Sa, V a c Sa → c.length = sz) {ls : List α} {cs : List D} {S : List Blk} (h : RwsI V ls cs S) : cs.length = ls.length * sz := by
 induction h with
 | nil => simp
 | cons h t ih => rw [List.length_append, hn _ _ _ h, ih, List.length_cons, Nat.succ_mul, Nat.add_comm]

theorem Rws.len {sz : Nat} (hn : ∀ a c Sa, V a c Sa → c.length = sz) {ls : List α} {cs : List D} {S : List Blk} (h : Rws V ls cs S) : cs.length = ls.length * sz := let ⟨_, h1, _⟩ := h; h1.len hn

/-! ### A call that looks at what is owned here, and gives what is its own -/
end Go.Proofs.YtjgekbmahhhokaaDoor.V

namespace Go.Proofs.YtjgekbmahhhokaaDoor.V
open Go.RowKit
set_option linter.unusedVariables false
set_option linter.unusedSimpArgs false

/-! ### Values that hold no yield -/
mutual
def noY : D → Bool
 | .v _ => true
 | .list _ cs _ => noYs cs
 | .iptr cs _ => noYs cs
 | .agg cs => noYs cs
 | .tup cs => noYs cs
 | .clo _ cs => noYs cs
 | .yld _ _ => false
 | .junk => true
def noYs : List D → Bool
 | [] => true
 | d :: r => noY d && noYs r
end

theorem noYs_get : ∀ {cs : List D}, noYs cs = true → ∀ i (h : i < cs.length), noY cs[i] = true
 | [], _, _, h => by cases h
 | d :: r, hn, 0, _ => by rw [noYs, Bool.and_eq_true] at hn; exact hn.1
 | d :: r, hn, i + 1, h => by rw [noYs, Bool.and_eq_true] at hn; exact noYs_get hn.2 i (by simpa using h)
theorem noY_look {l : List (Nat × D)} (h : (l.all fun p => noY p.2) = true) (t : Nat) : noY (look t l) = true := by
 induction l with
 | nil => rfl
 | cons p l ih =>
  obtain ⟨i, d⟩ := p
  rw [List.all_cons, Bool.and_eq_true] at h
  rw [look_cons]; split
  ·exact h.1
  exact ih h.2

theorem Rep.monoX {w w' : World} {L L' : Nat → Prop} {Z : Nat → Prop} {d : D} {v : Value} (h : Rep w L d v) (hn : noY d = true) (H : ∀ b, b < w.heap.size → ¬ L b → ¬ Z b → w'.heap[b]? = w.heap[b]? ∧ ¬ L' b)
  (hZ : ∀ b o, Z b → w.cell? ⟨b, o, none⟩ = none) (hs : w.heap.size ≤ w'.heap.size) (hZL : ∀ b, b < w.heap.size → ¬ L b → Z b → ¬ L' b) : Rep w' L' d v := by
 induction h with
 | v x => exact .v x
 | void sz ad cap => exact .void sz ad cap
 | list sz cs len b o cap f hl h1 h2 hb hL hc hr ih =>
  rw [noY] at hn
  by_cases hz : Z b
  ·have : ¬ 0 < cs.length := fun h0 => by have := hc 0 h0; rw [hZ _ _ hz] at this; cases this
   exact .list sz cs len b o cap f hl h1 h2 (by omega) (hZL b hb hL hz) (fun i hi => by omega) (fun i hi => by omega)
  have hh := H b hb hL hz
  exact .list sz cs len b o cap f hl h1 h2 (lt_of_same hb hh.1) hh.2 (fun i hi => (World.cell?_of_block (w := w) (a := ⟨b, o + i, none⟩) hh.1).trans (hc i hi)) (fun i hi => ih i hi (noYs_get hn i hi))
 | iptr cs off b o f hb hL hc hr ih =>
  rw [noY] at hn
  by_cases hz : Z b
  ·have : ¬ 0 < cs.length := fun h0 => by have := hc 0 h0; rw [hZ _ _ hz] at this; cases this
   exact .iptr cs off b o f (by omega) (hZL b hb hL hz) (fun i hi => by omega) (fun i hi => by omega)
  have hh := H b hb hL hz
  exact .iptr cs off b o f (lt_of_same hb hh.1) hh.2 (fun i hi => (World.cell?_of_block (w := w) (a := ⟨b, o + i, none⟩) hh.1).trans (hc i hi)) (fun i hi => ih i hi (noYs_get hn i hi))
 | agg cs vs hl hr ih => rw [noY] at hn; exact .agg cs vs hl fun i h h' => ih i h h' (noYs_get hn i h)
 | tup cs vs hl hr ih => rw [noY] at hn; exact .tup cs vs hl fun i h h' => ih i h h' (noYs_get hn i h)
 | clo fn cs vs hl hr ih => rw [noY] at hn; exact .clo fn cs vs hl fun i h h' => ih i h h' (noYs_get hn i h)
 | yld l os h => rw [noY] at hn; cases hn
 | junk x => exact .junk x

theorem RepL.monoX {w w' : World} {L L' : Nat → Prop} {Z : Nat → Prop} {ds : List D} {vs : List Value} (h : RepL w L ds vs) (hn : noYs ds = true) (H : ∀ b, b < w.heap.size → ¬ L b → ¬ Z b → w'.heap[b]? = w.heap[b]? ∧ ¬ L' b)
  (hZ : ∀ b o, Z b → w.cell? ⟨b, o, none⟩ = none) (hs : w.heap.size ≤ w'.heap.size) (hZL : ∀ b, b < w.heap.size → ¬ L b → Z b → ¬ L' b) : RepL w' L' ds vs :=
 ⟨h.1, fun i h1 h2 => (h.2 i h1 h2).monoX (noYs_get hn i h1) H hZ hs hZL⟩

theorem Own.monoX {w w' : World} {L : Nat → Prop} {Z : Nat → Prop} {S : List Blk} (h : Own w L S) (hS : ∀ B ∈ S, L B.b) (hn : ∀ B ∈ S, noYs B.cs = true) (H : ∀ b, b < w.heap.size → ¬ Z b → w'.heap[b]? = w.heap[b]?)
  (hZ : ∀ b o, Z b → w.cell? ⟨b, o, none⟩ = none) (hs : w.heap.size ≤ w'.heap.size) (hZS : ∀ B ∈ S, ¬ Z B.b) : Own w' L S :=
 ⟨fun B hB => by
  obtain ⟨r0, cur, r1, r2, r3, r4⟩ := h.at_ B hB
  refine ⟨by omega, cur, (H _ r0 (hZS B hB)).trans r1, r2, r3, fun i hi => ?_⟩
  obtain ⟨u, hu, hq⟩ := r4 i hi
  exact ⟨u, hu, hq.monoX (noYs_get (hn B hB) i hi) (fun b hb hl hz => ⟨H b hb hz, hl⟩) hZ hs (fun b _ hl _ => hl)⟩, h.apart⟩

theorem cell_odd {w : World} {b : Nat} {o : Obj} (h : w.heap[b]? = some o) (ho : o.isCells = false) (i : Nat) : w.cell? ⟨b, i, none⟩ = none := by
 cases hc : w.cell? ⟨b, i, none⟩ with
 | none => rfl
 | some v =>
  obtain ⟨o', h1, h2⟩ := cells_of_cell hc
  have h1 : w.heap[b]? = some o' := h1
  rw [h] at h1; cases h1; rw [ho] at h2; cases h2

/-! ### What a loop owes its iterator -/
structure FrX (l : Nat) (w : World) (S : List Nat) (w' : World) (S' : List Nat) : Prop where
 os : w'.os = w.os
 tape : w'.tape = w.tape
 output : w'.output = w.output
 size : w.heap.size ≤ w'.heap.size
 block : ∀ b, b < w.heap.size → b ∉ S → (b ≠ l → w'.heap[b]? = w.heap[b]?) ∧ b ∉ S'

structure Ytr (α : Type) where
 l : Nat
 os : List (Nat × Obj)
 od : List (Nat × Obj)
 enc : α → List D
 J : List α → List Blk → Prop
 Jx : List α → List Blk → Prop
 N : Nat

def rawAt (W : World) (L : Nat → Prop) (os : List (Nat × Obj)) : Prop := ∀ z ∈ os, z.1 < W.heap.size ∧ ¬ L z.1 ∧ W.heap[z.1]? = some z.2

def YOk {α : Type} (P : Program) (X0 : Nat → Prop) (w0 : World) (S0 : List Nat) (Y : Ytr α) : Prop :=
 ∀ (pre : List α) (y : α) (Sc : List Blk) (X : Nat → Prop) (W : World) (vs : List Value),
  Y.J pre Sc → pre.length < Y.N → (∀ b, X b → b < W.heap.size ∧ b ∉ bks Sc) → (∀ b, X0 b → X b) → (∀ b, X b → X0 b ∨ w0.heap.size ≤ b ∨ b ∈ S0) →
  Own W (live X Sc) Sc → RepL W (live X Sc) (Y.enc y) vs → Fr w0 S0 W (bks Sc) → rawAt W (live X Sc) Y.os →
  ∃ fn tmps assign body, (Instr.yield Y.l vs.toArray).run P W = .ok (.round Y.l fn tmps assign body) W ∧
   RoundIn Fence.wide 0 P Y.l fn tmps assign body W (fun e W' => ∃ b Sc', e = .returned (.bool b) ∧ Own W' (live X Sc') Sc' ∧ FrX Y.l W (bks Sc) W' (bks Sc') ∧
    (b = true → Y.J (pre ++ [y]) Sc' ∧ W'.heap[Y.l]? = W.heap[Y.l]?) ∧ (b = false → Y.Jx (pre ++ [y]) Sc' ∧ rawAt W' (live X Sc') Y.od))

def TabAt (G : List (Nat × List Value)) (w0 : World) (S0 : List Nat) (X0 : Nat → Prop) : Prop := ∀ g ∈ G, (g.1 < w0.heap.size ∧ g.1 ∉ S0 ∧ ¬ X0 g.1) ∧ ∀ i v, g.2[i]? = some v → tabCell w0 g.1 i v

def VI {α : Type} (P : Program) (G : List (Nat × List Value)) (gf : FuncId) (caps : List D) (enc : α → List D) (Sa Sp : List α → Prop) (N : Nat) : Prop :=
 ∀ (Y : Ytr α) (X0 : Nat → Prop) (w0 W : World) (S0 : List Nat) (Sc : List Blk) (cv : List Value), Y.enc = enc → Y.N = N →
  (∀ b, X0 b → b < w0.heap.size ∧ b ∉ S0) → TabAt G w0 S0 X0 → w0.heap.size ≤ Y.l → Own W (live X0 Sc) Sc → RepL W (live X0 Sc) caps cv → Fr w0 S0 W (bks Sc) →
  rawAt W (live X0 Sc) Y.os → Y.J [] Sc → YOk P X0 w0 S0 Y →
  Calls P gf (#[.func (.yield Y.l) #[] #[]] ++ cv.toArray) W fun e W' => ∃ v Sc', e = .returned v ∧ Own W' (live X0 Sc') Sc' ∧ Fr w0 S0 W' (bks Sc') ∧
   ((∃ xs, Sa xs ∧ Y.J xs Sc' ∧ rawAt W' (live X0 Sc') Y.os) ∨ (∃ pre, Sp pre ∧ Y.Jx pre Sc' ∧ rawAt W' (live X0 Sc') Y.od))

variable {P : Program} {C : Ctx} {G : List (Nat × List Value)} {Q : Exit → St → Prop} {x : St} {ops : Array Oper} {o : Oper} {fuel i : Nat} {ld : Array Bool} {α : Type}

def BodyY (P : Program) (fn : Func) (Y : Ytr α) (Sa Sp : List α → Prop) (e : Exit) (y : St) : Prop :=
 (e = .normal ∨ e = .ret) ∧ (∃ r, Ret P fn y r) ∧ 0 < y.n ∧ ∃ Sc', Sc'.Sublist y.S ∧ ((∃ xs, Sa xs ∧ Y.J xs Sc' ∧ look 0 y.env = .yld Y.l Y.os) ∨ (∃ pre, Sp pre ∧ Y.Jx pre Sc' ∧ look 0 y.env = .yld Y.l Y.od))
theorem VI.body {gf : FuncId} {fn : Func} {c : Code} {n : Nat} {caps : List D} {enc : α → List D} {Sa Sp : List α → Prop} {N : Nat} (hf : P.funcs[gf]? = some fn) (hb : fn.body = some c) (hn : fn.ntmps = n) (hl : 1 + caps.length ≤ n)
  (h : ∀ (Y : Ytr α) X0 w0 S0 Sc, Y.enc = enc → Y.N = N → w0.heap.size ≤ Y.l → YOk P X0 w0 S0 Y → Y.J [] Sc → CD P ⟨X0, w0, S0, G, [], fun _ _ => False⟩ c ⟨n, envOf 0 (.yld Y.l Y.os :: caps), Sc⟩ (BodyY P fn Y Sa Sp)) : VI P G gf caps enc Sa Sp N := fun Y X0 w0 W S0 Sc cv he hN hex htab hlt hown hrep hfr hraw hJ hY => by
 let C : Ctx := ⟨X0, w0, S0, G, [], fun _ _ => False⟩
 have hall : RepL W (live X0 Sc) (.yld Y.l Y.os :: caps) (.func (.yield Y.l) #[] #[] :: cv) := .cons (.yld _ _ hraw) hrep
 have harr : #[Value.func (.yield Y.l) #[] #[]] ++ cv.toArray = (Value.func (.yield Y.l) #[] #[] :: cv).toArray := by simp
 rw [harr]
 generalize hvs : Value.func (.yield Y.l) #[] #[] :: cv = vs at hall
 generalize hds : D.yld Y.l Y.os :: caps = args at hall
 have hal : args.length ≤ n := by rw [← hds]; simp; omega
 have hvl : vs.length = args.length := hall.1
 have hsim : Sim C ⟨n, envOf 0 args, Sc⟩ { tmps := vs.toArray ++ Array.replicate (fn.ntmps - vs.toArray.size) undef, defers := [] } W := by
  refine ⟨rfl, by simp [hn]; omega, fun t ht => ?_, hown, hfr, hex, htab⟩
  simp only [look_envOf, Nat.zero_le, if_true, Nat.sub_zero]
  by_cases hlt : t < args.length
  ·have e1 : args.getD t .junk = args[t] := by simp [List.getD, hlt]
   have e2 : (vs.toArray ++ Array.replicate (fn.ntmps - vs.toArray.size) undef).getD t undef = vs[t]'(by omega) := by
    rw [Array.getD_eq_getD_getElem?, Array.getElem?_append_left (by simp; omega)]
    simp [show t < vs.length by omega]
   rw [e1, e2]
   exact hall.2 t hlt (by omega)
  have e1 : args.getD t .junk = .junk := by simp [List.getD, List.getElem?_eq_none (show args.length ≤ t by omega)]
  rw [e1]; exact .junk _
 rw [← hds] at hsim
 refine calls_of_wp hf hb (wp_mono (h Y X0 w0 S0 Sc he hN hlt hY hJ _ _ hsim) fun e a w' hq => ?_)
 rcases hq with ⟨y, h1, h2, ⟨r, h3⟩, h0, Sc', h4, h5⟩ | ⟨_, hq⟩
 case inr => exact hq.elim
 obtain ⟨v, q1, q2⟩ := h3 C a w' h1
 have hsub : (bks Sc').Sublist (bks y.S) := List.Sublist.map _ h4
 have raw : ∀ os, look 0 y.env = .yld Y.l os → rawAt w' (live X0 Sc') os := fun os ho => by
  have hv := h1.env 0 h0
  rw [ho] at hv
  generalize a.tmps.getD 0 undef = u at hv
  cases hv with
  | yld _ _ hz => exact fun z hz' => by obtain ⟨z1, z2, z3⟩ := hz z hz'; exact ⟨z1, fun hl => z2 (hl.imp id fun q => hsub.subset q), z3⟩
 have key : a.defers = [] ∧ ∃ v, (results fn a.tmps).run P w' = .ok v w' ∧ ∃ v' Sc', Ending.returned v = .returned v' ∧ Own w' (live X0 Sc') Sc' ∧ Fr w0 S0 w' (bks Sc') ∧ ((∃ xs, Sa xs ∧ Y.J xs Sc' ∧ rawAt w' (live X0 Sc') Y.os) ∨ (∃ pre, Sp pre ∧ Y.Jx pre Sc' ∧ rawAt w' (live X0 Sc') Y.od)) :=
  ⟨h1.defers, v, q2, v, Sc', rfl, h1.own.sub h4, ⟨h1.fr.os, h1.fr.tape, h1.fr.output, h1.fr.size, fun b hb' hn => ⟨(h1.fr.block b hb' hn).1, fun q => (h1.fr.block b hb' hn).2 (hsub.subset q)⟩⟩,
   h5.imp (fun ⟨xs, s1, s2, s3⟩ => ⟨xs, s1, s2, raw _ s3⟩) (fun ⟨pre, s1, s2, s3⟩ => ⟨pre, s1, s2, raw _ s3⟩)⟩
 rcases h2 with rfl | rfl <;> exact key

/-! ### A region in which yield is called -/
def AI (P : Program) (C : Ctx) (ops : Array Oper) (fuel : Nat) (ld : Array Bool) (x : St) (Q : Exit → St → Prop) : Prop :=
 ∀ a w, Sim C x a w → wpAnyIn Fence.wide 0 P .any ops (LQ C Q) fuel ld a w
def AIs (P : Program) (C : Ctx) (ops : Array Oper) (fuel : Nat) (ld : Array Bool) (x : St) (Q : Exit → St → Prop) (i : Nat) : Prop :=
 ∀ a w, Sim C x a w → wpOpIn Fence.wide 0 P ops (LQ C Q) i (wpAnyIn Fence.wide 0 P .any ops (LQ C Q) fuel (ld.setIfInBounds i true)) a w

theorem Sim.drew {a : Act} {w : World} (hs : Sim C x a w) : Sim C x a { w with drawn := w.drawn + 1 } :=
 ⟨hs.defers, hs.size, fun t ht => (hs.env t ht).mono fun b _ hn => ⟨rfl, hn⟩, ⟨fun B hB => by
  obtain ⟨r0, cur, r1, r2, r3, r4⟩ := hs.own.at_ B hB
  exact ⟨r0, cur, r1, r2, r3, fun i hi => by
   obtain ⟨u, hu, hq⟩ := r4 i hi
   exact ⟨u, hu, hq.mono fun b _ hn => ⟨rfl, hn⟩⟩⟩, hs.own.apart⟩, ⟨hs.fr.os, hs.fr.tape, hs.fr.output, hs.fr.size, hs.fr.block⟩, hs.ex, hs.tab⟩

theorem AI.all {rs : List Nat} (hr : Region.ready .any ops ld = rs) (hne : rs ≠ []) (h : ∀ i ∈ rs, AIs P C ops fuel ld x Q i) : AI P C ops (fuel + 1) ld x Q := fun a w hs => wpAnyIn_all hr hne fun i hi => h i hi a w hs
theorem AI.one (hr : Region.ready .any ops ld = [i]) (h : AIs P C ops fuel ld x Q i) : AI P C ops (fuel + 1) ld x Q := AI.all hr (by simp) fun j hj => by rw [List.mem_singleton] at hj; subst hj; exact h
theorem AI.two {j : Nat} (hr : Region.ready .any ops ld = [i, j]) (h : AIs P C ops fuel ld x Q i) (h' : AIs P C ops fuel ld x Q j) : AI P C ops (fuel + 1) ld x Q := AI.all hr (by simp) fun k hk => by
 rcases List.mem_cons.1 hk with rfl | hk
 ·exact h
 rw [List.mem_singleton] at hk; subst hk; exact h'
theorem AI.done (hr : Region.ready .any ops ld = []) (h : Q .normal x) : AI P C ops fuel ld x Q := fun a w hs => wpAnyIn_done hr (.inl ⟨x, hs, h⟩) _
theorem AI.wk {y : St} (h : Wk x y) (k : AI P C ops fuel ld y Q) : AI P C ops fuel ld x Q := fun a w hs => k a w (h C a w hs)
theorem AI.perm {S' : List Blk} (hp : x.S.Perm S') (k : AI P C ops fuel ld ⟨x.n, x.env, S'⟩ Q) : AI P C ops fuel ld x Q := AI.wk (Wk.perm hp) k
theorem AI.take {t : Nat} {d : D} (hi : ops[i]? = some o) (hs : Region.noSelect ops = true) (hf : Region.free .any ops ld i = true) (hr : (Region.ready .any ops ld).contains i = true) (hp : NP Q)
  (hw : Wants ops x o true) (hab : ∀ w a, o.about P w a = none) (hd : o.dst = some t) (h : Still P C.G x o .none d) (K : AI P C ops fuel (ld.setIfInBounds i true) (x.put t d) Q) : AI P C ops (fuel + 1) ld x Q := fun a w hsim => by
 obtain ⟨v, h1, h2⟩ := h C a w rfl hsim
 refine wpAnyIn_take (oi := o) (v := v) rfl hi hs hf hr (hQ_of hp _ v) ⟨.inl ⟨hw C a w hsim, fun w' => h2 w' trivial⟩, fun w' => hab w' _⟩ ?_
 rw [hd]; exact K _ _ (hsim.put h1)

theorem oper_in {K : Act → World → Prop} {Q : Exit → Act → World → Prop} {a : Act} {w : World} (ro : Option Nat) (hd : ∀ c, o.op ≠ .defer c) (h : o.wp P a w K Q) : o.wpIn { Fence.wide with round := ro } 0 P a w K Q := by
 refine ⟨fun _ _ => trivial, ?_⟩
 rw [Oper.semAt_eq _ _ _ hd]
 unfold Oper.wp at h
 generalize (execOp a.eval o).run P w = r at h
 have hst : ∀ m m', Steps P m m' → StepsIn (Machine.fenced P { Fence.wide with round := ro }) P m m' := fun m m' hs => stepsIn_wide.2 hs
 match r, h with
 | .ok (.value v) w', h => exact h
 | .ok .skip w', h => exact h
 | .ok (.defer d) w', h => exact h
 | .ok (.enter f args) w', h => exact ⟨fun hc => (by cases hc), ((callsIn_wide (n := 0)).2 h : CallsIn Fence.wide 0 P f args w' _)⟩
 | .ok (.row row args) w', h => exact ⟨fun hc => (by cases hc), fun c cs _ => let ⟨v, w'', r, s⟩ := h c cs; ⟨v, w'', r, hst _ _ s⟩⟩
 | .halt (.panic v) w', h => exact h

theorem AIs.eff {W : List Nat} {post : St → Prop} (hi : ops[i]? = some o) (hw : Wants ops x o true) (hdf : ∀ c, o.op ≠ .defer c) (h : Eff P C.G x o W post) (k : ∀ y, post y → AI P C ops fuel (ld.setIfInBounds i true) y Q) : AIs P C ops fuel ld x Q i := fun a w hsim => by
 unfold wpOpIn
 simp only [hi, hw C a w hsim, if_true]
 exact oper_in none hdf (h C a w _ _ rfl hsim fun y a' w' hp hs' _ _ => k y hp a' w' hs')
theorem AIs.still {t : Nat} {kd : Rd} {d : D} (hi : ops[i]? = some o) (hw : Wants ops x o true) (hdf : ∀ c, o.op ≠ .defer c) (hd : o.dst = some t) (h : Still P C.G x o kd d) (k : AI P C ops fuel (ld.setIfInBounds i true) (x.put t d) Q) : AIs P C ops fuel ld x Q i :=
 AIs.eff hi hw hdf (h.eff hd) fun y hy => by subst hy; exact k
theorem AIs.callP {f t : Nat} {fo : Operand} {ars : Array Operand} {ts : Array TypeId} {args : List D} {r : D} (hi : ops[i]? = some o) (hw : Wants ops x o true) (ho : o.op = .call { callee := .value fo, args := ars, argTypes := ts }) (hd : o.dst = some t)
  (hf : fo = .func f) (hcall : ∀ args w, (callFunc f args).run P w = .ok (.enter f args) w) (hc : VP P C.G f args r) (ha : Opds x ars.toList args)
  (K : AI P C ops fuel (ld.setIfInBounds i true) (x.put t r) Q) : AIs P C ops fuel ld x Q i :=
 AIs.eff hi hw (fun c hc => by rw [ho] at hc; cases hc) (eff_call ho hd hf hcall ha.eq (perm_none _) hc) fun y ⟨r', S', ⟨h1, h2⟩, hy⟩ => by subst h1 h2 hy; exact K

theorem Sim.back {a : Act} {w w' : World} (h : Sim C x a w) {Sf R S' : List Blk} (hp : x.S.Perm (Sf ++ R)) (h3 : Own w' (live (fun b => C.X b ∨ b ∈ bks R) S') S') (h5 : Fr w (bks Sf) w' (bks S')) : Sim C ⟨x.n, x.env, S' ++ R⟩ a w' := by
 have hb : (bks x.S).Perm (bks Sf ++ bks R) := by have := hp.map Blk.b; simpa [bks] using this
 have hL := live_perm (X := C.X) hp
 have hnd : (bks Sf ++ bks R).Nodup := hb.nodup_iff.1 h.own.apart
 obtain ⟨n1, n2, n3⟩ := List.nodup_append.1 hnd
 have hRlt : ∀ b, b ∈ bks R → b < w.heap.size := fun b hbm => by
  obtain ⟨B, hB, rfl⟩ := List.mem_map.1 hbm
  exact (h.own.at_ B (hp.symm.subset (List.mem_append_right _ hB))).1
 have hL' : live C.X (S' ++ R) = live (fun b => C.X b ∨ b ∈ bks R) S' := live_perm (List.Perm.refl _)
 have H : ∀ b, b < w.heap.size → ¬ live C.X x.S b → w'.heap[b]? = w.heap[b]? ∧ ¬ live C.X (S' ++ R) b := fun b hlt hn => by
  rw [hL] at hn
  have hnSf : b ∉ bks Sf := fun hm => hn (.inr hm)
  obtain ⟨q1, q2⟩ := h5.block b hlt hnSf
  refine ⟨q1, fun hl => ?_⟩
  rw [hL'] at hl
  rcases hl with hl | hl
  ·exact hn (.inl hl)
  exact q2 hl
 refine ⟨h.defers, h.size, fun t ht => (h.env t ht).mono H, ⟨fun B hB => ?_, ?_⟩, ?_, h.ex, h.tab⟩
 ·rcases List.mem_append.1 hB with hB | hB
  ·have := h3.at_ B hB
   rw [← hL'] at this; exact this
  obtain ⟨r0, cur, r1, r2, r3, r4⟩ := h.own.at_ B (hp.symm.subset (List.mem_append_right _ hB))
  have hBm : B.b ∈ bks R := List.mem_map.2 ⟨B, hB, rfl⟩
  have hnSf : B.b ∉ bks Sf := fun hm => n3 B.b hm B.b hBm rfl
  have hh := (h5.block B.b r0 hnSf).1
  refine ⟨lt_of_same r0 hh, cur, hh.trans r1, r2, r3, fun i hi => ?_⟩
  obtain ⟨u, hu, hq⟩ := r4 i hi
  exact ⟨u, hu, hq.mono H⟩
 ·show (bks (S' ++ R)).Nodup
  have : bks (S' ++ R) = bks S' ++ bks R := by simp [bks]
  rw [this]
  refine List.nodup_append.2 ⟨h3.apart, n2, fun b hb1 c hc1 he => ?_⟩
  subst he
  have hnSf : b ∉ bks Sf := fun hm => n3 b hm b hc1 rfl
  exact (h5.block b (hRlt b hc1) hnSf).2 hb1
 refine ⟨h5.os.trans h.fr.os, h5.tape.trans h.fr.tape, h5.output.trans h.fr.output, Nat.le_trans h.fr.size h5.size, fun b hb' hn => ?_⟩
 obtain ⟨q1, q2⟩ := h.fr.block b hb' hn
 have hn1 : b ∉ bks Sf := fun hm => q2 (hb.symm.subset (List.mem_append_left _ hm))
 have hn2 : b ∉ bks R := fun hm => q2 (hb.symm.subset (List.mem_append_right _ hm))
 obtain ⟨q3, q4⟩ := h5.block b (Nat.lt_of_lt_of_le hb' h.fr.size) hn1
 refine ⟨q3.trans q1, fun hm => ?_⟩
 have : bks (S' ++ R) = bks S' ++ bks R := by simp [bks]
 rw [this] at hm
 rcases List.mem_append.1 hm with hm | hm
 ·exact q4 hm
 exact hn2 hm

theorem AIs.yield {t : Nat} {fo : Operand} {ars : Array Operand} {ts : Array TypeId} {Y : Ytr α} {pre : List α} {y : α} {Sc R : List Blk} (hi : ops[i]? = some o) (hw : Wants ops x o true) (ho : o.op = .call { callee := .value fo, args := ars, argTypes := ts }) (hd : o.dst = some t)
  (hf : opd x fo = .yld Y.l Y.os) (hn : 0 < x.n) (hz : look 0 x.env = .yld Y.l Y.os) (ha : ars.toList.map (opd x) = Y.enc y) (hp : x.S.Perm (Sc ++ R)) (hJ : Y.J pre Sc) (hN : pre.length < Y.N) (hY : YOk P C.X C.w0 C.S0 Y) (hl : C.w0.heap.size ≤ Y.l) (h0t : t ≠ 0)
  (kT : ∀ Sc', Y.J (pre ++ [y]) Sc' → AI P C ops fuel (ld.setIfInBounds i true) ⟨x.n, (t, .v (.bool true)) :: x.env, Sc' ++ R⟩ Q)
  (kF : ∀ Sc', Y.Jx (pre ++ [y]) Sc' → AI P C ops fuel (ld.setIfInBounds i true) ⟨x.n, [(t, .v (.bool false)), (0, .yld Y.l Y.od)], Sc'⟩ Q) : AIs P C ops fuel ld x Q i := fun a w h => by
 have hb : (bks x.S).Perm (bks Sc ++ bks R) := by have := hp.map Blk.b; simpa [bks] using this
 have hL := live_perm (X := C.X) hp
 have hnd : (bks Sc ++ bks R).Nodup := hb.nodup_iff.1 h.own.apart
 obtain ⟨n1, n2, n3⟩ := List.nodup_append.1 hnd
 have hRlt : ∀ b, b ∈ bks R → b < w.heap.size := fun b hbm => by
  obtain ⟨B, hB, rfl⟩ := List.mem_map.1 hbm
  exact (h.own.at_ B (hp.symm.subset (List.mem_append_right _ hB))).1
 have yv : ∀ (o' : Operand) os, opd x o' = .yld Y.l os → a.eval o' = .func (.yield Y.l) #[] #[] ∧ rawAt w (live C.X x.S) os := fun o' os he => by
  have hv := h.eval o'
  rw [he] at hv
  generalize a.eval o' = u at hv
  cases hv with
  | yld _ _ hz => exact ⟨rfl, hz⟩
 obtain ⟨e1, hraw⟩ := yv fo _ hf
 have hrep : RepL w (live C.X x.S) (Y.enc y) (ars.toList.map a.eval) := ha ▸ RepL.opds h ars.toList
 have e0 : a.tmps.getD 0 undef = .func (.yield Y.l) #[] #[] := by
  have hv := h.env 0 hn
  rw [hz] at hv
  generalize a.tmps.getD 0 undef = u at hv
  cases hv with
  | yld _ _ _ => rfl
 rw [hL] at hraw hrep
 obtain ⟨fn, tmps, assign, body, hy, hro⟩ := hY pre y Sc (fun b => C.X b ∨ b ∈ bks R) w _ hJ hN (fun b hx => by
   rcases hx with hx | hx
   ·obtain ⟨q1, q2⟩ := h.ex b hx
    exact ⟨Nat.lt_of_lt_of_le q1 h.fr.size, fun hm => (h.fr.block b q1 q2).2 (hb.symm.subset (List.mem_append_left _ hm))⟩
   ·exact ⟨hRlt b hx, fun hm => n3 b hm b hx rfl⟩) (fun b hx => .inl hx) (fun b hx => by
   rcases hx with hx | hx
   ·exact .inl hx
   rcases Nat.lt_or_ge b C.w0.heap.size with hlt | hge
   ·by_cases hs0 : b ∈ C.S0
    ·exact .inr (.inr hs0)
    exact absurd (hb.symm.subset (List.mem_append_right _ hx)) (h.fr.block b hlt hs0).2
   exact .inr (.inl hge))
  ⟨fun B hB => by rw [← hL]; exact h.own.at_ B (hp.symm.subset (List.mem_append_left _ hB)), n1⟩ hrep
  ⟨h.fr.os, h.fr.tape, h.fr.output, h.fr.size, fun b hb' hn' => ⟨(h.fr.block b hb' hn').1, fun hm => (h.fr.block b hb' hn').2 (hb.symm.subset (List.mem_append_left _ hm))⟩⟩ hraw
 have hrun : (execOp a.eval o).run P w = .ok (.round Y.l fn tmps assign body) w := by
  unfold execOp
  have e : ars.map a.eval = (ars.toList.map a.eval).toArray := by
   rw [← Array.toList_map, Array.toArray_toList]
  simp only [ho, resolve, e1, Deferred.ofValue, Sem.run_bind, Sem.run_pure, Result.andThen_ok, invoke, e, Array.empty_append]
  exact hy
 unfold wpOpIn
 simp only [hi, hw C a w h, if_true]
 refine ⟨fun _ _ => trivial, ?_⟩
 show o.uponIn Fence.wide 0 P a _ _ ((o.semAt none a.eval).run P w)
 rw [Oper.semAt_none, hrun, Oper.uponIn_round]
 refine ⟨fun hc => (by cases hc), hro.mono fun e w' ⟨b, Sc', he, h3, h5, hT, hF⟩ => ?_⟩
 subst he
 show wpAnyIn Fence.wide 0 P .any ops (LQ C Q) fuel (ld.setIfInBounds i true) (a.put o.dst (.bool b)) w'
 rw [hd]
 have hl0 : ∀ q, q < C.w0.heap.size → q ≠ Y.l := fun q hq e => by omega
 cases b with
 | true =>
  obtain ⟨j1, j2⟩ := hT rfl
  have hfr' : Fr w (bks Sc) w' (bks Sc') := ⟨h5.os, h5.tape, h5.output, h5.size, fun q hq hnq => by
   obtain ⟨p1, p2⟩ := h5.block q hq hnq
   refine ⟨?_, p2⟩
   by_cases e : q = Y.l
   ·rw [e]; exact j2
   exact p1 e⟩
  exact kT Sc' j1 _ _ ((h.back hp h3 hfr').put (.v _))
 | false =>
  obtain ⟨j1, j2⟩ := hF rfl
  have hlive : ∀ q, live C.X Sc' q → live (fun b => C.X b ∨ b ∈ bks R) Sc' q := fun q hq => hq.imp .inl id
  have hown' : Own w' (live C.X Sc') Sc' := ⟨fun B hB => by
   obtain ⟨r0, cur, r1, r2, r3, r4⟩ := h3.at_ B hB
   exact ⟨r0, cur, r1, r2, r3, fun q hq => by
    obtain ⟨u, hu, hh⟩ := r4 q hq
    exact ⟨u, hu, hh.mono fun b _ hn => ⟨rfl, fun hl => hn (hlive b hl)⟩⟩⟩, h3.apart⟩
  refine kF Sc' j1 _ _ ⟨h.defers, by simp [Act.put, h.size], fun q hq => ?_, hown', ⟨h5.os.trans h.fr.os, h5.tape.trans h.fr.tape, h5.output.trans h.fr.output, Nat.le_trans h.fr.size h5.size, fun q hq hnq => ?_⟩, h.ex, h.tab⟩
  ·have hsz := h.size
   simp only [look_cons, Act.put]
   by_cases e : t = q
   ·subst e
    rw [if_pos rfl]
    have : (a.tmps.setIfInBounds t (.bool false)).getD t undef = .bool false := by
     have hq : t < x.n := hq
     simp [Array.getElem?_setIfInBounds, hsz, hq]
    rw [this]; exact .v _
   rw [if_neg e]
   by_cases e2 : 0 = q
   ·subst e2
    rw [if_pos rfl]
    have : (a.tmps.setIfInBounds t (.bool false)).getD 0 undef = a.tmps.getD 0 undef := by
     simp [Array.getElem?_setIfInBounds, h0t]
    rw [this, e0]
    exact .yld _ _ fun z hz' => by obtain ⟨z1, z2, z3⟩ := j2 z hz'; exact ⟨z1, fun hl => z2 (hlive _ hl), z3⟩
   rw [if_neg e2]; exact .junk _
  obtain ⟨q1, q2⟩ := h.fr.block q hq hnq
  have hn1 : q ∉ bks Sc := fun hm => q2 (hb.symm.subset (List.mem_append_left _ hm))
  obtain ⟨p1, p2⟩ := h5.block q (Nat.lt_of_lt_of_le hq h.fr.size) hn1
  exact ⟨(p1 (hl0 q hq)).trans q1, p2⟩

end Go.Proofs.YtjgekbmahhhokaaDoor.V

namespace Go.Proofs.YtjgekbmahhhokaaDoor.V
open Go.RowKit
set_option linter.unusedVariables false
set_option linter.unusedSimpArgs false

variable {P : Program} {C : Ctx} {G : List (Nat × List Value)} {Q : Exit → St → Prop} {x : St} {ops : Array Oper} {l : List Oper} {o : Oper}

theorem RepL.flatten {w : World} {L : Nat → Prop} {us vs : List Value} (h : RepL w L (us.map .v) vs) : vs = us := by
 refine List.ext_getElem (by simpa using h.1) fun i h1 h2 => ?_
 have := h.2 i (by simpa using h2) h1
 simp only [List.getElem_map] at this
 exact this.v_eq

theorem VP.ofCalls {f : FuncId} {vs : List Value} {v : Value} (h : ∀ w : World, (∀ g ∈ G, ∀ (i : Nat) (u : Value), g.2[i]? = some u → tabCell w g.1 i u) → Calls P f vs.toArray w fun e w' => e = .returned v ∧ Below w.heap.size w w') : VP P G f (vs.map .v) (.v v) := fun X w us hp => by
 have hu : us = vs := hp.args.flatten
 subst hu
 refine (h w fun g hg i u hi => (hp.tab g hg).2 i u hi).mono fun e w' ⟨h1, h2⟩ => ?_
 refine ⟨v, .v v, [], h1, ⟨rfl, rfl⟩, ⟨fun B hB => by simp at hB, by simp [bks]⟩, .v _, ⟨h2.os, h2.tape, h2.output, h2.size, fun b hb _ => ⟨h2.block b hb, by simp [bks]⟩⟩⟩

/-! ### make -/

end Go.Proofs.YtjgekbmahhhokaaDoor.V
