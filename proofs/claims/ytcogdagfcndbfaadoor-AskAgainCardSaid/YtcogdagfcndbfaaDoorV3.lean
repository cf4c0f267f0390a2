/-
  A walk at the level of values. Part 3: places in lists, slices, strings; operations that make or write blocks.
-/
import Derived.Test.YtcogdagfcndbfaaDoorV2
namespace Go.Proofs.YtcogdagfcndbfaaDoor.V
open Go.RowKit
set_option linter.unusedVariables false
set_option linter.unusedSimpArgs false

variable {P : Program} {G : List (Nat × List Value)} {x : St} {o : Oper}

/-! ### Places in lists -/

theorem run_idx {t e : TypeId} {b o' len cap sz j : Nat} {k : IntKind} {i : Int} {w : World} (hu : ∀ w, (underlying t).run P w = .ok (.slice e) w) (hs : ∀ w, (sizeOf e).run P w = .ok sz w) (hi : i = j) (hj : j < len) :
    (Instr.indexAt t (.slice (some ⟨b, o', none⟩) len cap) (.int k i)).run P w = .ok (.pointer (some ⟨b, o' + j * sz, none⟩)) w := by
  subst hi
  simp [Instr.indexAt, asIntOf, hu, hs, hj, Addr.add_mid]

theorem still_idx {t e : TypeId} {len sz j : Nat} {cs : List D} {k : IntKind} {i : Int} {y z : Operand} (ho : o.op = .indexAddr t y z) (hy : opd x y = .list sz cs len) (hz : opd x z = .v (.int k i))
    (hu : ∀ w, (underlying t).run P w = .ok (.slice e) w) (hs : ∀ w, (sizeOf e).run P w = .ok sz w) (hi : i = j) (hj : j < len) : Still P G x o .none (.iptr cs (j * sz)) := fun C a w _ h => by
  have hr := h.eval y
  rw [hy] at hr
  generalize hg : a.eval y = u at hr
  cases hr with
  | nil => omega
  | list _ _ _ b o'' cap g hl h1 h2 hb hL hc hr =>
    refine ⟨_, .iptr cs (j * sz) b o'' g hb hL hc hr, fun w' _ => ?_⟩
    unfold execOp
    simp only [ho, hg, h.flat hz, Sem.run_bind, run_idx hu hs hi hj, Result.andThen_ok, Sem.run_pure]

theorem still_ridx {t e : TypeId} {b o' len cap sz j : Nat} {k : IntKind} {i : Int} {y z : Operand} (ho : o.op = .indexAddr t y z) (hy : opd x y = .v (.slice (some ⟨b, o', none⟩) len cap)) (hz : opd x z = .v (.int k i))
    (hu : ∀ w, (underlying t).run P w = .ok (.slice e) w) (hs : ∀ w, (sizeOf e).run P w = .ok sz w) (hi : i = j) (hj : j < len) : Still P G x o .none (.v (.pointer (some ⟨b, o' + j * sz, none⟩))) := fun C a w _ h =>
  ⟨_, .v _, fun w' _ => by
    unfold execOp
    simp only [ho, h.flat hy, h.flat hz, Sem.run_bind, run_idx hu hs hi hj, Result.andThen_ok, Sem.run_pure]⟩

theorem run_aidx {t e : TypeId} {b o' len sz j : Nat} {k : IntKind} {i : Int} {w : World} (hu : ∀ w, (underlying t).run P w = .ok (.array len e) w) (hs : ∀ w, (sizeOf e).run P w = .ok sz w) (hi : i = j) (hj : j < len) :
    (Instr.indexAt t (.pointer (some ⟨b, o', none⟩)) (.int k i)).run P w = .ok (.pointer (some ⟨b, o' + j * sz, none⟩)) w := by
  subst hi
  simp [Instr.indexAt, asIntOf, hu, hs, hj, Addr.add_mid, Instr.sureAddr]

theorem still_aidx {t e : TypeId} {b o' len sz j : Nat} {k : IntKind} {i : Int} {y z : Operand} (ho : o.op = .indexAddr t y z) (hy : opd x y = .v (.pointer (some ⟨b, o', none⟩))) (hz : opd x z = .v (.int k i))
    (hu : ∀ w, (underlying t).run P w = .ok (.array len e) w) (hs : ∀ w, (sizeOf e).run P w = .ok sz w) (hi : i = j) (hj : j < len) : Still P G x o .none (.v (.pointer (some ⟨b, o' + j * sz, none⟩))) := fun C a w _ h =>
  ⟨_, .v _, fun w' _ => by
    unfold execOp
    simp only [ho, h.flat hy, h.flat hz, Sem.run_bind, run_aidx hu hs hi hj, Result.andThen_ok, Sem.run_pure]⟩

/-- A byte of a string. -/
theorem still_sidx {t : TypeId} {s : ByteArray} {c : UInt8} {j : Nat} {k : IntKind} {i : Int} {y z : Operand} (ho : o.op = .index t y z) (hy : opd x y = .v (.string s)) (hz : opd x z = .v (.int k i))
    (hu : ∀ w, (underlying t).run P w = .ok .string w) (hi : i = j) (hj : s[j]? = some c) : Still P G x o .none (.v (.int .u8 c.toNat)) := fun C a w _ h =>
  ⟨_, .v _, fun w' _ => by
    subst hi
    unfold execOp
    simp [ho, h.flat hy, h.flat hz, Instr.index, asIntOf, hu, hj]⟩

/-- An element of an array that is no variable. -/
theorem still_vidx {t e : TypeId} {len sz j : Nat} {cs : List D} {d : D} {k : IntKind} {i : Int} {y z : Operand} (ho : o.op = .index t y z) (hy : opd x y = .agg cs) (hz : opd x z = .v (.int k i))
    (hu : ∀ w, (underlying t).run P w = .ok (.array len e) w) (hs : ∀ w, (sizeOf e).run P w = .ok sz w) (ha : ∀ w, (isAgg e).run P w = .ok false w) (hi : i = j) (hj : j < len) (hd : cs[j * sz]? = some d) : Still P G x o .none d := fun C a w _ h => by
  have hr := h.eval y
  rw [hy] at hr
  generalize hg : a.eval y = u at hr
  subst hi
  cases hr with
  | agg _ vs hl hr =>
    obtain ⟨hlt, he⟩ := List.getElem?_eq_some_iff.1 hd
    refine ⟨vs[j * sz]'(by omega), ?_, fun w' _ => ?_⟩
    · rw [← he]; exact hr _ hlt (by omega)
    · unfold execOp
      simp [ho, hg, h.flat hz, Instr.index, asIntOf, hu, hj, part, ha, hs, List.getElem?_eq_getElem (show j * sz < vs.length by omega)]

/-! ### Slices -/

/-- The bounds of a slice expression that are there. -/
def bound (x : St) (y : Option Operand) (n : Nat) (dflt : Nat) : Prop :=
  match y with
  | some y => ∃ (k : IntKind) (i : Int), opd x y = .v (.int k i) ∧ i = n
  | none => n = dflt

theorem bound_eval {C : Ctx} {a : Act} {w : World} (h : Sim C x a w) {y : Option Operand} {n dflt : Nat} (hb : bound x y n dflt) : (∃ k, y.map a.eval = some (.int k n)) ∨ (y.map a.eval = none ∧ n = dflt) := by
  cases y with
  | none => exact .inr ⟨rfl, hb⟩
  | some y =>
    obtain ⟨k, i, h1, h2⟩ := hb
    exact .inl ⟨k, by rw [Option.map_some, h.flat h1, h2]⟩

theorem run_sbound {k : IntKind} {n m : Nat} {code : BoundsCode} {w : World} (h : n ≤ m) : (Instr.sliceBound (.int k n) m code).run P w = .ok n w := by
  unfold Instr.sliceBound
  simp [asIntOf, h]

theorem run_sbounds {il : Bool} {len cap l h : Nat} {lo hi : Option Value} {w : World} (hlo : (∃ k, lo = some (.int k l)) ∨ (lo = none ∧ l = 0)) (hhi : (∃ k, hi = some (.int k h)) ∨ (hi = none ∧ h = len)) (h1 : l ≤ h) (h2 : h ≤ cap) :
    (Instr.sliceBounds il len cap lo hi none).run P w = .ok (l, h, cap) w := by
  unfold Instr.sliceBounds
  rcases hlo with ⟨k, rfl⟩ | ⟨rfl, rfl⟩ <;> rcases hhi with ⟨k', rfl⟩ | ⟨rfl, rfl⟩ <;> simp [run_sbound, h1, h2]

theorem still_slice {t e : TypeId} {len sz l h' : Nat} {cs : List D} {y : Operand} {lo hi : Option Operand} (ho : o.op = .slice t y lo hi none) (hy : opd x y = .list sz cs len) (hlo : bound x lo l 0) (hhi : bound x hi h' len)
    (hu : ∀ w, (underlying t).run P w = .ok (.slice e) w) (hs : ∀ w, (sizeOf e).run P w = .ok sz w) (h1 : l ≤ h') (h2 : h' ≤ len) : Still P G x o .none (.list sz ((cs.drop (l * sz)).take ((h' - l) * sz)) (h' - l)) := fun C a w _ h => by
  have hr := h.eval y
  rw [hy] at hr
  generalize hg : a.eval y = u at hr
  have b1 := bound_eval h hlo
  have b2 := bound_eval h hhi
  cases hr with
  | nil =>
    have e1 : l = 0 := by omega
    have e2 : h' = 0 := by omega
    subst e1 e2
    refine ⟨_, by simpa using Rep.nil sz, fun w' _ => ?_⟩
    unfold execOp
    simp [ho, hg, Instr.sliceAt, Instr.slice, hu, run_sbounds b1 b2 (Nat.le_refl _) (Nat.le_refl _), hs]
  | list _ _ _ b o'' cap g hl q1 q2 hb hL hc hr =>
    have hlen : ((cs.drop (l * sz)).take ((h' - l) * sz)).length = (h' - l) * sz := by
      rw [List.length_take, List.length_drop, hl, ← Nat.sub_mul]
      exact Nat.min_eq_left (Nat.mul_le_mul_right _ (by omega))
    have hmul : ∀ i, i < (h' - l) * sz → l * sz + i < cs.length := fun i hi => by
      rw [hl]
      have : l * sz + (h' - l) * sz ≤ len * sz := by rw [← Nat.add_mul]; exact Nat.mul_le_mul_right _ (by omega)
      omega
    by_cases hcap : cap = l
    · have e2 : h' = l := by omega
      refine ⟨.slice (some ⟨b, o'', none⟩) (h' - l) (cap - l), ?_, fun w' _ => ?_⟩
      · refine .list sz _ _ b o'' _ g hlen (by omega) (by omega) hb hL (fun i hi => ?_) (fun i hi => ?_) <;> (rw [hlen, e2] at hi; simp at hi)
      · have b3 := fun w => run_sbounds (P := P) (il := true) (w := w) b1 b2 h1 (Nat.le_trans h2 q1)
        unfold execOp
        simp only [ho, hg, Instr.sliceAt, Instr.slice, hu, Sem.run_bind, Result.andThen_ok, Option.map_none, b3, hs, Sem.run_pure, if_pos hcap]
    · refine ⟨.slice (some ⟨b, o'' + l * sz, none⟩) (h' - l) (cap - l), ?_, fun w' _ => ?_⟩
      · refine .list sz _ _ b (o'' + l * sz) _ (fun i => g (l * sz + i)) hlen (by omega) (by omega) hb hL (fun i hi => ?_) (fun i hi => ?_)
        · rw [Nat.add_assoc]; exact hc _ (hmul i (by rw [hlen] at hi; exact hi))
        · simp only [List.getElem_take, List.getElem_drop]
          exact hr _ _
      · have b3 := fun w => run_sbounds (P := P) (il := true) (w := w) b1 b2 h1 (Nat.le_trans h2 q1)
        unfold execOp
        simp only [ho, hg, Instr.sliceAt, Instr.slice, hu, Sem.run_bind, Result.andThen_ok, Option.map_none, b3, hs, Sem.run_pure, if_neg hcap, Option.map_some, Addr.add_mid]

/-- A slice of one's own, its head. -/
theorem still_rslice {t e : TypeId} {b o' len cap sz h' : Nat} {y : Operand} {lo hi : Option Operand} (ho : o.op = .slice t y lo hi none) (hy : opd x y = .v (.slice (some ⟨b, o', none⟩) len cap)) (hlo : bound x lo 0 0) (hhi : bound x hi h' len)
    (hu : ∀ w, (underlying t).run P w = .ok (.slice e) w) (hs : ∀ w, (sizeOf e).run P w = .ok sz w) (h2 : h' ≤ cap) : Still P G x o .none (.v (.slice (some ⟨b, o', none⟩) h' cap)) := fun C a w _ h =>
  ⟨_, .v _, fun w' _ => by
    have b1 := bound_eval h hlo
    have b2 := bound_eval h hhi
    unfold execOp
    simp [ho, h.flat hy, Instr.sliceAt, Instr.slice, hu, run_sbounds b1 b2 (Nat.zero_le _) h2, hs, Addr.add_mid]⟩

theorem still_sslice {t : TypeId} {s : ByteArray} {l h' : Nat} {y : Operand} {lo hi : Option Operand} (ho : o.op = .slice t y lo hi none) (hy : opd x y = .v (.string s)) (hlo : bound x lo l 0) (hhi : bound x hi h' s.size)
    (hu : ∀ w, (underlying t).run P w = .ok .string w) (h1 : l ≤ h') (h2 : h' ≤ s.size) : Still P G x o .none (.v (.string (s.extract l h'))) := fun C a w _ h =>
  ⟨_, .v _, fun w' _ => by
    have b1 := bound_eval h hlo
    have b2 := bound_eval h hhi
    unfold execOp
    simp [ho, h.flat hy, Instr.sliceAt, Instr.slice, hu, run_sbounds b1 b2 h1 h2]⟩

/-! ### len, cap, min, max -/

theorem still_len {t : TypeId} {sz len : Nat} {cs : List D} {y : Operand} {ts : Array TypeId} (ho : o.op = .call { callee := .builtin .len, args := #[y], argTypes := ts }) (ht : ts = #[t]) (hy : opd x y = .list sz cs len)
    {e : TypeId} (hu : ∀ w, (underlying t).run P w = .ok (.slice e) w) : Still P G x o .none (.v (.int .i64 len)) := fun C a w _ h => by
  have hr := h.eval y
  rw [hy] at hr
  generalize hg : a.eval y = u at hr
  subst ht
  refine ⟨_, .v _, fun w' _ => ?_⟩
  cases hr <;> (unfold execOp; simp [ho, hg, resolve, invoke, builtin, Builtin.len_, hu, goInt])

theorem still_rlen {t : TypeId} {ad : Option Addr} {len cap : Nat} {y : Operand} {ts : Array TypeId} (ho : o.op = .call { callee := .builtin .len, args := #[y], argTypes := ts }) (ht : ts = #[t]) (hy : opd x y = .v (.slice ad len cap))
    {e : TypeId} (hu : ∀ w, (underlying t).run P w = .ok (.slice e) w) : Still P G x o .none (.v (.int .i64 len)) := fun C a w _ h => by
  subst ht
  refine ⟨_, .v _, fun w' _ => ?_⟩
  unfold execOp; simp [ho, h.flat hy, resolve, invoke, builtin, Builtin.len_, hu, goInt]

theorem still_slen {t : TypeId} {s : ByteArray} {y : Operand} {ts : Array TypeId} (ho : o.op = .call { callee := .builtin .len, args := #[y], argTypes := ts }) (ht : ts = #[t]) (hy : opd x y = .v (.string s))
    (hu : ∀ w, (underlying t).run P w = .ok .string w) : Still P G x o .none (.v (.int .i64 s.size)) := fun C a w _ h => by
  subst ht
  refine ⟨_, .v _, fun w' _ => ?_⟩
  unfold execOp; simp [ho, h.flat hy, resolve, invoke, builtin, Builtin.len_, hu, goInt]

/-- min and max of two numbers. -/
theorem still_minmax {b : Builtin} {u u' r : Value} {y z : Operand} {ts : Array TypeId} (ho : o.op = .call { callee := .builtin b, args := #[y, z], argTypes := ts }) (hy : opd x y = .v u) (hz : opd x z = .v u')
    (hb : ∀ cs w, (Go.builtin b ts o.type cs #[u, u']).run P w = .ok (.value r) w) : Still P G x o .none (.v r) := fun C a w _ h =>
  ⟨_, .v _, fun w' _ => by
    unfold execOp; simp [ho, h.flat hy, h.flat hz, resolve, invoke, hb]⟩

theorem still_func {fn : Fn} {caps : Array Operand} {ds : List D} (ho : o.op = .makeFunc fn #[] caps) (hd : caps.toList.map (opd x) = ds) : Still P G x o .none (.clo fn ds) := fun C a w _ h => by
  subst hd
  refine ⟨.func fn #[] (caps.toList.map a.eval).toArray, .clo _ _ _ (by simp) (fun i q1 q2 => ?_), fun w' _ => ?_⟩
  · simp only [List.getElem_map]; exact h.eval _
  · unfold execOp
    simp [ho, Instr.makeFunc]
    rw [← Array.toList_map, Array.toArray_toList]

/-! ### Operations that make or write a block -/

/-- From w to w' nothing turned but the blocks in W and new ones. -/
def Chg (W : List Nat) (w w' : World) : Prop := w.heap.size ≤ w'.heap.size ∧ ∀ b, b < w.heap.size → b ∉ W → w'.heap[b]? = w.heap[b]?

/-- The operation goes well, and leaves a state that meets 'post'. -/
def Eff (P : Program) (G : List (Nat × List Value)) (x : St) (o : Oper) (W : List Nat) (post : St → Prop) : Prop :=
  ∀ (C : Ctx) (a : Act) (w : World) (K : Act → World → Prop) (Q : Exit → Act → World → Prop), C.G = G → Sim C x a w → (∀ y a' w', post y → Sim C y a' w' → Chg W w w' → Fr w (bks x.S) w' (bks y.S) → K a' w') → o.wp P a w K Q

theorem Chg.refl (W : List Nat) (w : World) : Chg W w w := ⟨Nat.le_refl _, fun _ _ _ => rfl⟩

theorem Still.eff {k : Rd} {d : D} {t : Nat} (h : Still P G x o k d) (hd : o.dst = some t) : Eff P G x o [] (fun y => y = x.put t d) := fun C a w K Q hG hs hK => by
  obtain ⟨v, hr, hrun⟩ := h C a w hG hs
  unfold Oper.wp
  rw [hrun w (Same.self C x w k), Oper.upon_value, hd]
  exact hK _ _ _ rfl (hs.put hr) (Chg.refl _ _) (Fr.refl _ _)

/-- The cells of a value. -/
def cellsOf : D → List D
  | .agg cs => cs
  | .v (.agg cs) => cs.toList.map .v
  | d => [d]

def RepL (w : World) (L : Nat → Prop) (ds : List D) (vs : List Value) : Prop := vs.length = ds.length ∧ ∀ i (h : i < ds.length) (h' : i < vs.length), Rep w L ds[i] vs[i]

theorem RepL.mono {w w' : World} {L L' : Nat → Prop} {ds : List D} {vs : List Value} (h : RepL w L ds vs) (H : ∀ b, b < w.heap.size → ¬ L b → w'.heap[b]? = w.heap[b]? ∧ ¬ L' b) : RepL w' L' ds vs :=
  ⟨h.1, fun i h1 h2 => (h.2 i h1 h2).mono H⟩

/-- One cell, of which nothing else can come. -/
def one : D → Bool
  | .v x => x.oneCell'
  | .list .. | .iptr .. | .clo .. => true
  | _ => false

theorem Rep.one_cell {w : World} {L : Nat → Prop} {d : D} {v : Value} (h : Rep w L d v) (hd : one d = true) : v.oneCell' = true := by
  cases h <;> first | exact hd | rfl | exact absurd hd (by simp [one])

theorem Rep.cells {w : World} {L : Nat → Prop} {d : D} {v : Value} (h : Rep w L d v) (hd : d ≠ .junk) : RepL w L (cellsOf d) v.cells.toList := by
  have single : ∀ (d : D) (v : Value), v.cells = #[v] → cellsOf d = [d] → Rep w L d v → RepL w L (cellsOf d) v.cells.toList := fun d v h1 h2 h3 => by
    rw [h1, h2]
    refine ⟨rfl, fun i q1 q2 => ?_⟩
    have : i = 0 := by simpa using q1
    subst this
    exact h3
  cases h with
  | v =>
    cases v with
    | agg cs =>
      refine ⟨by simp [cellsOf, Value.cells], fun i q1 q2 => ?_⟩
      simp only [cellsOf, List.getElem_map, Value.cells]
      exact .v _
    | _ => exact single _ _ rfl rfl (.v _)
  | nil sz => exact single _ _ rfl rfl (.nil sz)
  | list sz cs len b o cap f hl h1 h2 hb hL hc hr => exact single _ _ rfl rfl (.list sz cs len b o cap f hl h1 h2 hb hL hc hr)
  | iptr cs off b o f hb hL hc hr => exact single _ _ rfl rfl (.iptr cs off b o f hb hL hc hr)
  | agg cs vs hl hr => exact ⟨by simp [cellsOf, Value.cells, hl], fun i q1 q2 => hr i q1 q2⟩
  | tup cs vs hl hr => exact single _ _ rfl rfl (.tup cs vs hl hr)
  | clo fn cs vs hl hr => exact single _ _ rfl rfl (.clo fn cs vs hl hr)
  | junk => exact absurd rfl hd

theorem getElem?_push_lt {w : World} {ob : Obj} {b : Nat} (h : b < w.heap.size) : (w.alloc ob).heap[b]? = w.heap[b]? := Below.heap_alloc w ob b h

/-- A new block. -/
theorem Sim.new {C : Ctx} {a : Act} {w : World} (h : Sim C x a w) {t : Nat} {cells : Array Value} {e : TypeId} {ds : List D} {size : Nat} (hr : RepL w (live C.X x.S) ds cells.toList) (hsz : cells.size = size) {d : D} {v : Value}
    (hd : ∀ L, Rep (w.alloc (.cells cells e)) L d v) :
    Sim C ⟨x.n, (t, d) :: x.env, ⟨w.heap.size, e, size, ds⟩ :: x.S⟩ (a.put (some t) v) (w.alloc (.cells cells e)) := by
  have hlt : ∀ b, live C.X x.S b → b < w.heap.size := fun b hb => by
    rcases hb with hb | hb
    · exact Nat.lt_of_lt_of_le (h.ex b hb).1 h.fr.size
    · obtain ⟨B, hB, rfl⟩ := List.mem_map.1 hb
      exact (h.own.at_ B hB).1
  have H : ∀ b, b < w.heap.size → ¬ live C.X x.S b → (w.alloc (.cells cells e)).heap[b]? = w.heap[b]? ∧ ¬ live C.X (⟨w.heap.size, e, size, ds⟩ :: x.S) b := fun b hb hn =>
    ⟨getElem?_push_lt hb, fun hl => by
      rcases hl with hl | hl
      · exact hn (.inl hl)
      · simp only [bks, List.map_cons, List.mem_cons] at hl
        rcases hl with hl | hl
        · omega
        · exact hn (.inr hl)⟩
  have base : Sim C ⟨x.n, x.env, ⟨w.heap.size, e, size, ds⟩ :: x.S⟩ a (w.alloc (.cells cells e)) := by
    refine ⟨h.defers, h.size, fun t ht => (h.env t ht).mono H, ⟨fun B hB => ?_, ?_⟩, ?_, h.ex, h.tab⟩
    · rcases List.mem_cons.1 hB with rfl | hB
      · refine ⟨by simp, cells, heap_alloc_new w _, hsz, ?_, fun i hi => ?_⟩
        · have := hr.1; simp at this; simp only; omega
        · have hi' : i < cells.toList.length := by rw [hr.1]; exact hi
          refine ⟨cells.toList[i], ?_, (hr.2 i hi hi').mono H⟩
          simp at hi'
          simp [hi']
      · obtain ⟨h0, cur, h1, h2, h3, h4⟩ := h.own.at_ B hB
        refine ⟨by simp; omega, cur, (getElem?_push_lt h0).trans h1, h2, h3, fun i hi => ?_⟩
        obtain ⟨u, hu, hq⟩ := h4 i hi
        exact ⟨u, hu, hq.mono H⟩
    · show (w.heap.size :: bks x.S).Nodup
      exact List.nodup_cons.2 ⟨fun hm => Nat.lt_irrefl _ (hlt _ (.inr hm)), h.own.apart⟩
    · refine ⟨h.fr.os, h.fr.tape, h.fr.output, by simp; have := h.fr.size; omega, fun b hb hn => ?_⟩
      obtain ⟨q1, q2⟩ := h.fr.block b hb hn
      have hb' := Nat.lt_of_lt_of_le hb h.fr.size
      refine ⟨(getElem?_push_lt hb').trans q1, fun hm => ?_⟩
      simp only [bks, List.map_cons, List.mem_cons] at hm
      rcases hm with hm | hm
      · omega
      · exact q2 hm
  exact base.put (hd _)

theorem Chg.alloc (w : World) (ob : Obj) : Chg [] w (w.alloc ob) := ⟨by simp, fun b hb _ => getElem?_push_lt hb⟩

theorem Fr.alloc (w : World) (ob : Obj) (S : List Nat) : Fr w S (w.alloc ob) (w.heap.size :: S) :=
  ⟨rfl, rfl, rfl, by simp, fun b hb hn => ⟨getElem?_push_lt hb, fun hm => by
    rcases List.mem_cons.1 hm with hm | hm
    · omega
    · exact hn hm⟩⟩

def newBox (x : St) (t : Nat) (e : TypeId) (ds : List D) (y : St) : Prop := ∃ b, y = ⟨x.n, (t, .v (.pointer (some ⟨b, 0, none⟩))) :: x.env, ⟨b, e, ds.length, ds⟩ :: x.S⟩

theorem eff_alloc {e : TypeId} {z : Value} {t : Nat} {ds : List D} (ho : o.op = .alloc e) (hd : o.dst = some t) (hz : ∀ w, (zeroValue e).run P w = .ok z w) (hds : z.cells.toList.map .v = ds) : Eff P G x o [] (newBox x t e ds) := fun C a w K Q hG h hK => by
  subst hds
  unfold Oper.wp
  have : (execOp a.eval o).run P w = .ok (.value (.pointer (some ⟨w.heap.size, 0, none⟩))) (w.alloc (.cells z.cells e)) := by
    unfold execOp
    simp [ho, Instr.alloc, hz, newVar, newRow]
  rw [this, Oper.upon_value, hd]
  refine hK _ _ _ ⟨w.heap.size, rfl⟩ (h.new (ds := z.cells.toList.map .v) ⟨by simp, fun i q1 q2 => ?_⟩ (by simp) (fun L => .v _)) (Chg.alloc _ _) (Fr.alloc _ _ _)
  simp only [List.getElem_map]
  exact .v _

theorem eff_box {e : TypeId} {y : Operand} {t : Nat} {d : D} {ds : List D} (ho : o.op = .box e y) (hd : o.dst = some t) (hy : opd x y = d) (hj : d ≠ .junk) (hds : cellsOf d = ds) : Eff P G x o [] (newBox x t e ds) := fun C a w K Q hG h hK => by
  subst hds
  unfold Oper.wp
  have : (execOp a.eval o).run P w = .ok (.value (.pointer (some ⟨w.heap.size, 0, none⟩))) (w.alloc (.cells (a.eval y).cells e)) := by
    unfold execOp
    simp [ho, Instr.box, newVar, newRow]
  rw [this, Oper.upon_value, hd]
  have hr := h.eval y
  rw [hy] at hr
  have hc := hr.cells hj
  refine hK _ _ _ ⟨w.heap.size, rfl⟩ (h.new (ds := cellsOf d) hc (by have := hc.1; simpa using this) (fun L => .v _)) (Chg.alloc _ _) (Fr.alloc _ _ _)

end Go.Proofs.YtcogdagfcndbfaaDoor.V
