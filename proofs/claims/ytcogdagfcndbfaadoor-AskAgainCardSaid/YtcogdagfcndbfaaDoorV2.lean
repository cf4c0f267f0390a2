/-
  A walk at the level of values. Part 2: operations that change no block.
-/
import Derived.Test.YtcogdagfcndbfaaDoorV1
namespace Go.Proofs.YtcogdagfcndbfaaDoor.V
open Go.RowKit
set_option linter.unusedVariables false
set_option linter.unusedSimpArgs false

/-- What an operation looks at in memory: nothing; an owned block; what nobody writes; a table. -/
inductive Rd where
  | none
  | blk (k : Nat)
  | imm

def Same (C : Ctx) (x : St) (w w' : World) : Rd → Prop
  | .none => True
  | .blk k => ∀ B, x.S[k]? = some B → w'.heap[B.b]? = w.heap[B.b]?
  | .imm => ∀ b, b < w.heap.size → ¬ live C.X x.S b → w'.heap[b]? = w.heap[b]?

theorem Same.self (C : Ctx) (x : St) (w : World) : ∀ k, Same C x w w k
  | .none => trivial
  | .blk _ => fun _ _ => rfl
  | .imm => fun _ _ _ => rfl

/-- In such a state the operation yields what reads as d, and changes nothing. G: the tables that it looks at. -/
def Still (P : Program) (G : List (Nat × List Value)) (x : St) (o : Oper) (k : Rd) (d : D) : Prop :=
  ∀ C a w, C.G = G → Sim C x a w → ∃ v, Rep w (live C.X x.S) d v ∧ ∀ w', Same C x w w' k → (execOp a.eval o).run P w' = .ok (.value v) w'

variable {P : Program} {G : List (Nat × List Value)} {x : St} {o : Oper}

theorem still_move {y : Operand} (ho : o.op = .move y) : Still P G x o .none (opd x y) := fun C a w _ h =>
  ⟨a.eval y, h.eval y, fun w' _ => by unfold execOp; simp [ho]⟩

theorem still_assign {y : Operand} (ho : o.op = .assign y) : Still P G x o .none (opd x y) := fun C a w _ h =>
  ⟨a.eval y, h.eval y, fun w' _ => by unfold execOp; simp [ho]⟩

theorem still_pick {c y z : Operand} {t : Bool} (ho : o.op = .pick c y z) (hc : opd x c = .v (.bool t)) : Still P G x o .none (if t then opd x y else opd x z) := fun C a w _ h => by
  refine ⟨if t then a.eval y else a.eval z, by cases t <;> simp [h.eval], fun w' _ => ?_⟩
  unfold execOp
  simp only [ho, h.flat hc, asBool]
  cases t <;> simp

/-- An operation on two plain values. -/
def BinOK (P : Program) (op : BinOp) (t : TypeId) (u u' r : Value) : Prop := ∀ (y z : Operand) w, (do eqGuard op t y z u u'; Go.binOp op t u u' : Sem Value).run P w = .ok r w

theorem still_bin {op : BinOp} {t t' : TypeId} {y z : Operand} {u u' r : Value} (ho : o.op = .binOp op t y z t') (hy : opd x y = .v u) (hz : opd x z = .v u') (hb : BinOK P op t u u' r) : Still P G x o .none (.v r) := fun C a w _ h =>
  ⟨r, .v _, fun w' _ => by
    unfold execOp
    have := hb y z w'
    simp only [Sem.run_bind] at this
    simp only [ho, h.flat hy, h.flat hz, Sem.run_bind, this, Result.andThen_ok, Sem.run_pure]⟩

theorem still_un {op : UnOp} {t : TypeId} {y : Operand} {u r : Value} (ho : o.op = .unOp op t y) (hy : opd x y = .v u) (hb : ∀ w, (Op.unary op u).run P w = .ok r w) : Still P G x o .none (.v r) := fun C a w _ h =>
  ⟨r, .v _, fun w' _ => by
    unfold execOp
    simp only [ho, h.flat hy, Sem.run_bind, hb w', Result.andThen_ok, Sem.run_pure]⟩

theorem still_conv {s t : TypeId} {y : Operand} {u r : Value} (ho : o.op = .convert s t y) (hy : opd x y = .v u) (hb : ∀ w, (Go.convert s t u).run P w = .ok r w) : Still P G x o .none (.v r) := fun C a w _ h =>
  ⟨r, .v _, fun w' _ => by
    unfold execOp
    simp only [ho, h.flat hy, Sem.run_bind, hb w', Result.andThen_ok, Sem.run_pure]⟩

/-! ### Fields and places -/

theorem run_field_ptr {s : TypeId} {i n off b o' : Nat} {f : Field} {fs : Array Field} {w : World} (hu : ∀ w, (underlying s).run P w = .ok (.struct fs) w) (hf : fs[i]? = some f) (hn : ∀ w, (sizeOf f.type).run P w = .ok (n + 1) w) (hoff : f.offset = off) :
    (Instr.fieldAt s (.pointer (some ⟨b, o', none⟩)) i).run P w = .ok (.pointer (some ⟨b, o' + off, none⟩)) w := by
  subst hoff
  simp [Instr.fieldAt, hu, hf, Instr.sureAddr, fieldPlace, hn, Addr.add_mid]

theorem still_field {s : TypeId} {i n off b o' : Nat} {f : Field} {fs : Array Field} {y : Operand} (ho : o.op = .fieldAddr s y i) (hy : opd x y = .v (.pointer (some ⟨b, o', none⟩)))
    (hu : ∀ w, (underlying s).run P w = .ok (.struct fs) w) (hf : fs[i]? = some f) (hn : ∀ w, (sizeOf f.type).run P w = .ok (n + 1) w) (hoff : f.offset = off) : Still P G x o .none (.v (.pointer (some ⟨b, o' + off, none⟩))) := fun C a w _ h =>
  ⟨_, .v _, fun w' _ => by
    unfold execOp
    simp only [ho, h.flat hy, Sem.run_bind, run_field_ptr hu hf hn hoff, Result.andThen_ok, Sem.run_pure]⟩

theorem still_ifield {s : TypeId} {i n off o' : Nat} {cs : List D} {f : Field} {fs : Array Field} {y : Operand} (ho : o.op = .fieldAddr s y i) (hy : opd x y = .iptr cs o')
    (hu : ∀ w, (underlying s).run P w = .ok (.struct fs) w) (hf : fs[i]? = some f) (hn : ∀ w, (sizeOf f.type).run P w = .ok (n + 1) w) (hoff : f.offset = off) : Still P G x o .none (.iptr cs (o' + off)) := fun C a w _ h => by
  have hr := h.eval y
  rw [hy] at hr
  generalize hg : a.eval y = u at hr
  cases hr with
  | iptr _ _ b o'' g hb hL hc hr =>
    refine ⟨_, .iptr cs (o' + off) b o'' g hb hL hc hr, fun w' _ => ?_⟩
    unfold execOp
    simp only [ho, hg, Sem.run_bind, run_field_ptr hu hf hn hoff, Result.andThen_ok, Sem.run_pure, Nat.add_assoc]

/-- A struct's field. -/
theorem still_part {s : TypeId} {i off : Nat} {cs : List D} {d : D} {f : Field} {fs : Array Field} {y : Operand} (ho : o.op = .field s y i) (hy : opd x y = .agg cs)
    (hu : ∀ w, (underlying s).run P w = .ok (.struct fs) w) (hf : fs[i]? = some f) (ha : ∀ w, (isAgg f.type).run P w = .ok false w) (hoff : f.offset = off) (hd : cs[off]? = some d) : Still P G x o .none d := fun C a w _ h => by
  have hr := h.eval y
  rw [hy] at hr
  generalize hg : a.eval y = u at hr
  subst hoff
  cases hr with
  | agg _ vs hl hr =>
    obtain ⟨hlt, he⟩ := List.getElem?_eq_some_iff.1 hd
    refine ⟨vs[f.offset]'(by omega), ?_, fun w' _ => ?_⟩
    · rw [← he]; exact hr _ hlt (by omega)
    · unfold execOp
      simp [ho, hg, Instr.field, hu, hf, part, ha, asAgg, List.getElem?_eq_getElem (show f.offset < vs.length by omega)]

/-- The same for a field of several cells. -/
theorem still_parts {s : TypeId} {i off n : Nat} {cs : List D} {f : Field} {fs : Array Field} {y : Operand} (ho : o.op = .field s y i) (hy : opd x y = .agg cs)
    (hu : ∀ w, (underlying s).run P w = .ok (.struct fs) w) (hf : fs[i]? = some f) (ha : ∀ w, (isAgg f.type).run P w = .ok true w) (hn : ∀ w, (sizeOf f.type).run P w = .ok n w) (hoff : f.offset = off) : Still P G x o .none (.agg ((cs.drop off).take n)) := fun C a w _ h => by
  have hr := h.eval y
  rw [hy] at hr
  generalize hg : a.eval y = u at hr
  subst hoff
  cases hr with
  | agg _ vs hl hr =>
    refine ⟨.agg ((vs.drop f.offset).take n).toArray, .agg _ _ (by simp [hl]) (fun i h1 h2 => ?_), fun w' _ => ?_⟩
    · simp only [List.getElem_take, List.getElem_drop]
      exact hr _ _ _
    · unfold execOp
      simp [ho, hg, Instr.field, hu, hf, part, ha, asAgg, hn]

theorem still_extract {i : Nat} {cs : List D} {d : D} {y : Operand} (ho : o.op = .extract y i) (hy : opd x y = .tup cs) (hd : cs[i]? = some d) : Still P G x o .none d := fun C a w _ h => by
  have hr := h.eval y
  rw [hy] at hr
  generalize hg : a.eval y = u at hr
  cases hr with
  | tup _ vs hl hr =>
    obtain ⟨hlt, he⟩ := List.getElem?_eq_some_iff.1 hd
    refine ⟨vs[i]'(by omega), ?_, fun w' _ => ?_⟩
    · rw [← he]; exact hr _ hlt (by omega)
    · unfold execOp
      simp [ho, hg, Instr.extract, List.getElem?_eq_getElem (show i < vs.length by omega)]

/-! ### Loads -/

theorem run_load1 {t : TypeId} {b o' : Nat} {v : Value} {w : World} (ha : ∀ w, (isAgg t).run P w = .ok false w) (hc : w.cell? ⟨b, o', none⟩ = some v) :
    (Instr.loadAt t (.pointer (some ⟨b, o', none⟩))).run P w = .ok v w := by
  simp [Instr.loadAt, Instr.sureAddr, loadVar, ha, hc]

theorem run_loadN {t : TypeId} {b o' n : Nat} {vs : List Value} {w : World} (ha : ∀ w, (isAgg t).run P w = .ok true w) (hn : ∀ w, (sizeOf t).run P w = .ok n w) (hl : vs.length = n)
    (hc : ∀ j (h : j < vs.length), w.cell? ⟨b, o' + j, none⟩ = some vs[j]) :
    (Instr.loadAt t (.pointer (some ⟨b, o', none⟩))).run P w = .ok (.agg vs.toArray) w := by
  have := run_loadCells_list (P := P) w ⟨b, o', none⟩ vs (fun j v hv => by
    obtain ⟨h1, h2⟩ := List.getElem?_eq_some_iff.1 hv
    rw [Addr.add_mid, hc j h1, h2])
  rw [hl] at this
  simp [Instr.loadAt, Instr.sureAddr, loadVar, ha, hn, this]

theorem cell_blk {w : World} {b i : Nat} {cur : Array Value} {e : TypeId} {u : Value} (hh : w.heap[b]? = some (.cells cur e (0, 0))) (hu : cur[i]? = some u) : w.cell? ⟨b, i, none⟩ = some u := by
  unfold World.cell?
  simp [hh, hu]

theorem still_load {t : TypeId} {k b o' : Nat} {B : Blk} {d : D} {y : Operand} (ho : o.op = .load t y) (hy : opd x y = .v (.pointer (some ⟨b, o', none⟩)))
    (hk : x.S[k]? = some B) (hb : B.b = b) (ha : ∀ w, (isAgg t).run P w = .ok false w) (hd : B.cs[o']? = some d) : Still P G x o (.blk k) d := fun C a w _ h => by
  obtain ⟨_, cur, h1, h2, h3, h4⟩ := h.blk hk
  obtain ⟨hlt, he⟩ := List.getElem?_eq_some_iff.1 hd
  obtain ⟨u, hu, hr⟩ := h4 o' hlt
  refine ⟨u, by rw [← he]; exact hr, fun w' hw => ?_⟩
  have hh : w'.heap[B.b]? = _ := (hw B hk).trans h1
  unfold execOp
  subst hb
  simp only [ho, h.flat hy, Sem.run_bind, run_load1 ha (cell_blk hh hu), Result.andThen_ok, Sem.run_pure]

theorem still_loads {t : TypeId} {k b o' n : Nat} {B : Blk} {ds : List D} {y : Operand} (ho : o.op = .load t y) (hy : opd x y = .v (.pointer (some ⟨b, o', none⟩)))
    (hk : x.S[k]? = some B) (hb : B.b = b) (ha : ∀ w, (isAgg t).run P w = .ok true w) (hn : ∀ w, (sizeOf t).run P w = .ok n w) (hl : ds.length = n) (hd : (B.cs.drop o').take n = ds) : Still P G x o (.blk k) (.agg ds) := fun C a w _ h => by
  obtain ⟨_, cur, h1, h2, h3, h4⟩ := h.blk hk
  have hlen : o' + n ≤ B.cs.length ∨ n = 0 := by
    have := congrArg List.length hd
    simp only [List.length_take, List.length_drop] at this
    omega
  have hget : ∀ j, j < n → ∃ u, cur[o' + j]? = some u ∧ ∀ (h : j < ds.length), Rep w (live C.X x.S) ds[j] u := fun j hj => by
    obtain ⟨u, hu, hr⟩ := h4 (o' + j) (by omega)
    refine ⟨u, hu, fun h => ?_⟩
    subst hd
    simpa using hr
  refine ⟨.agg ((List.range n).map fun j => cur.getD (o' + j) undef).toArray, .agg _ _ (by simp [hl]) (fun i q1 q2 => ?_), fun w' hw => ?_⟩
  · obtain ⟨u, hu, hr⟩ := hget i (by omega)
    simp only [List.getElem_map, List.getElem_range, Array.getD_eq_getD_getElem?, hu, Option.getD_some]
    exact hr q1
  · have hh : w'.heap[B.b]? = _ := (hw B hk).trans h1
    unfold execOp
    subst hb
    have := run_loadN (P := P) (w := w') (b := B.b) (o' := o') (vs := (List.range n).map fun j => cur.getD (o' + j) undef) ha hn (by simp) (fun j hj => by
      simp only [List.length_map, List.length_range] at hj
      obtain ⟨u, hu, _⟩ := hget j hj
      simp only [List.getElem_map, List.getElem_range, Array.getD_eq_getD_getElem?, hu, Option.getD_some]
      exact cell_blk hh hu)
    simp only [ho, h.flat hy, Sem.run_bind, this, Result.andThen_ok, Sem.run_pure]

theorem still_iload {t : TypeId} {o' : Nat} {cs : List D} {d : D} {y : Operand} (ho : o.op = .load t y) (hy : opd x y = .iptr cs o')
    (ha : ∀ w, (isAgg t).run P w = .ok false w) (hd : cs[o']? = some d) : Still P G x o .imm d := fun C a w _ h => by
  have hr := h.eval y
  rw [hy] at hr
  generalize hg : a.eval y = u at hr
  cases hr with
  | iptr _ _ b o'' g hb hL hc hr =>
    obtain ⟨hlt, he⟩ := List.getElem?_eq_some_iff.1 hd
    refine ⟨g o', by rw [← he]; exact hr o' hlt, fun w' hw => ?_⟩
    have hh := World.cell?_of_block (w := w) (a := ⟨b, o'' + o', none⟩) (hw b hb hL)
    unfold execOp
    simp only [ho, hg, Sem.run_bind, run_load1 ha (hh.trans (hc o' hlt)), Result.andThen_ok, Sem.run_pure]

theorem still_iloads {t : TypeId} {o' n : Nat} {cs ds : List D} {y : Operand} (ho : o.op = .load t y) (hy : opd x y = .iptr cs o')
    (ha : ∀ w, (isAgg t).run P w = .ok true w) (hn : ∀ w, (sizeOf t).run P w = .ok n w) (hl : ds.length = n) (hd : (cs.drop o').take n = ds) : Still P G x o .imm (.agg ds) := fun C a w _ h => by
  have hr := h.eval y
  rw [hy] at hr
  generalize hg : a.eval y = u at hr
  cases hr with
  | iptr _ _ b o'' g hb hL hc hr =>
    have hlen : o' + n ≤ cs.length ∨ n = 0 := by
      have := congrArg List.length hd
      simp only [List.length_take, List.length_drop] at this
      omega
    refine ⟨.agg ((List.range n).map fun j => g (o' + j)).toArray, .agg _ _ (by simp [hl]) (fun i q1 q2 => ?_), fun w' hw => ?_⟩
    · simp only [List.getElem_map, List.getElem_range]
      have := hr (o' + i) (by omega)
      subst hd
      simpa using this
    · have := run_loadN (P := P) (w := w') (b := b) (o' := o'' + o') (vs := (List.range n).map fun j => g (o' + j)) ha hn (by simp) (fun j hj => by
        simp only [List.length_map, List.length_range] at hj
        simp only [List.getElem_map, List.getElem_range]
        have hh := World.cell?_of_block (w := w) (a := ⟨b, o'' + o' + j, none⟩) (hw b hb hL)
        rw [hh, Nat.add_assoc]
        exact hc _ (by omega))
      unfold execOp
      simp only [ho, hg, Sem.run_bind, this, Result.andThen_ok, Sem.run_pure]

/-- Out of a table. -/
theorem still_tload {t : TypeId} {b o' : Nat} {vs : List Value} {v : Value} {y : Operand} (ho : o.op = .load t y) (hy : opd x y = .v (.pointer (some ⟨b, o', none⟩)))
    (hg : (b, vs) ∈ G) (ha : ∀ w, (isAgg t).run P w = .ok false w) (hd : vs[o']? = some v) : Still P G x o .imm (.v v) := fun C a w hG h => by
  subst hG
  refine ⟨v, .v _, fun w' hw => ?_⟩
  have h1 := h.tabAt hg hd
  obtain ⟨⟨q1, q2, q3⟩, _⟩ := h.tab _ hg
  have hb : b < w.heap.size := Nat.lt_of_lt_of_le q1 h.fr.size
  have hn : ¬ live C.X x.S b := fun hl => hl.elim q3 (h.fr.block b q1 q2).2
  have hh := World.cell?_of_block (w := w) (a := ⟨b, o', none⟩) (hw b hb hn)
  unfold execOp
  simp only [ho, h.flat hy, Sem.run_bind, run_load1 ha (hh.trans h1), Result.andThen_ok, Sem.run_pure]

end Go.Proofs.YtcogdagfcndbfaaDoor.V
