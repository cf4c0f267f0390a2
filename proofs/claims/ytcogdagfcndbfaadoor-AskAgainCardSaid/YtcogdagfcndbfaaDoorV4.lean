/-
  A walk at the level of values. Part 4: structs and lists that are built, stores, calls.
-/
import Derived.Test.YtcogdagfcndbfaaDoorV3
namespace Go.Proofs.YtcogdagfcndbfaaDoor.V
open Go.RowKit
set_option linter.unusedVariables false
set_option linter.unusedSimpArgs false

variable {P : Program} {G : List (Nat × List Value)} {x : St} {o : Oper}

/-! ### Structs and lists that are built -/

def setAll (cs : List D) (off : Nat) : List D → List D
  | [] => cs
  | d :: r => setAll (cs.set off d) (off + 1) r

def fillD (place : Nat → Option (Nat × Nat)) (cells : List D) : List (Nat × D) → Option (List D)
  | [] => some cells
  | (i, d) :: rest =>
    match place i with
    | none => none
    | some (off, size) => if (cellsOf d).length ≠ size || off + (cellsOf d).length > cells.length then none else fillD place (setAll cells off (cellsOf d)) rest

theorem RepL.set {w : World} {L : Nat → Prop} {ds : List D} {vs : List Value} (h : RepL w L ds vs) (i : Nat) {d : D} {v : Value} (hd : Rep w L d v) : RepL w L (ds.set i d) (vs.set i v) :=
  ⟨by simp [h.1], fun j h1 h2 => by
    rw [List.getElem_set, List.getElem_set]
    split
    · exact hd
    · exact h.2 j _ _⟩

theorem RepL.tail {w : World} {L : Nat → Prop} {d : D} {ds : List D} {v : Value} {vs : List Value} (h : RepL w L (d :: ds) (v :: vs)) : Rep w L d v ∧ RepL w L ds vs :=
  ⟨h.2 0 (by simp) (by simp), by simpa using h.1, fun i h1 h2 => h.2 (i + 1) (by simpa using h1) (by simpa using h2)⟩

theorem zip_shift {β : Type} (f : β → Value → Nat → β) : ∀ (r : List Value) (k : Nat) (z : β), (r.zipIdx (k + 1)).foldl (fun c (x : Value × Nat) => f c x.1 x.2) z = (r.zipIdx k).foldl (fun c (x : Value × Nat) => f c x.1 (x.2 + 1)) z
  | [], _, _ => rfl
  | v :: r, k, z => by
    simp only [List.zipIdx_cons, List.foldl_cons]
    exact zip_shift f r (k + 1) _

theorem RepL.setAll {w : World} {L : Nat → Prop} : ∀ (ds : List D) (vs : List Value) (cs : List D) (cells : List Value) (off : Nat), RepL w L ds vs → RepL w L cs cells → RepL w L (setAll cs off ds) (vs.zipIdx.foldl (fun cs (c, j) => cs.set (off + j) c) cells)
  | [], [], cs, cells, off, _, h => h
  | [], _ :: _, _, _, _, h, _ => by simp [RepL] at h
  | _ :: _, [], _, _, _, h, _ => by simp [RepL] at h
  | d :: ds, v :: vs, cs, cells, off, h, hc => by
    obtain ⟨h0, h1⟩ := h.tail
    have ih := RepL.setAll ds vs (cs.set off d) (cells.set off v) (off + 1) h1 (hc.set off h0)
    have e : (v :: vs).zipIdx.foldl (fun cs (x : Value × Nat) => cs.set (off + x.2) x.1) cells = vs.zipIdx.foldl (fun cs (x : Value × Nat) => cs.set (off + 1 + x.2) x.1) (cells.set off v) := by
      rw [List.zipIdx_cons, List.foldl_cons, Nat.add_zero, zip_shift (fun (c : List Value) v n => c.set (off + n) v)]
      congr 1
      funext a b
      rw [Nat.add_assoc, Nat.add_comm 1]
    rw [e]
    exact ih

theorem foldl_arr : ∀ (l : List (Value × Nat)) (cells : Array Value) (off : Nat), (l.foldl (fun cs (x : Value × Nat) => cs.setIfInBounds (off + x.2) x.1) cells).toList = l.foldl (fun cs (x : Value × Nat) => cs.set (off + x.2) x.1) cells.toList
  | [], _, _ => rfl
  | (v, j) :: l, cells, off => by
    simp only [List.foldl_cons]
    rw [foldl_arr l]
    simp

theorem fill_rep {w : World} {L : Nat → Prop} (place : Nat → Option (Nat × Nat)) : ∀ (parts : List (Nat × D)) (vals : List (Nat × Value)) (cs : List D) (cells : Array Value) (ds : List D),
    parts.length = vals.length → (∀ i (h : i < parts.length) (h' : i < vals.length), parts[i].1 = vals[i].1 ∧ parts[i].2 ≠ .junk ∧ Rep w L parts[i].2 vals[i].2) → RepL w L cs cells.toList → fillD place cs parts = some ds →
    ∃ cells', Instr.fill place cells vals = some cells' ∧ RepL w L ds cells'.toList
  | [], [], cs, cells, ds, _, _, hc, hf => by
    simp only [fillD, Option.some.injEq] at hf
    subst hf
    exact ⟨cells, rfl, hc⟩
  | [], _ :: _, _, _, _, h, _, _, _ => by simp at h
  | _ :: _, [], _, _, _, h, _, _, _ => by simp at h
  | (i, d) :: parts, (j, v) :: vals, cs, cells, ds, hl, hp, hc, hf => by
    obtain ⟨h1, h2, h3⟩ := hp 0 (by simp) (by simp)
    simp only [List.getElem_cons_zero] at h1 h2 h3
    subst h1
    have hcd := h3.cells h2
    have hcl : v.cells.size = (cellsOf d).length := by have := hcd.1; simpa using this
    have hsz : cells.size = cs.length := by have := hc.1; simpa using this
    unfold fillD at hf
    unfold Instr.fill
    cases hpl : place i with
    | none => rw [hpl] at hf; simp at hf
    | some os =>
      obtain ⟨off, size⟩ := os
      simp only [hpl] at hf ⊢
      rw [hcl, hsz]
      split at hf
      · cases hf
      · rename_i hn
        rw [if_neg hn]
        refine fill_rep place parts vals _ _ ds (by simpa using hl) (fun i h h' => hp (i + 1) (by simpa using h) (by simpa using h')) ?_ hf
        have := RepL.setAll (w := w) (L := L) (cellsOf d) v.cells.toList cs cells.toList off hcd hc
        rw [← foldl_arr] at this
        have e : v.cells.zipIdx.foldl (fun cs (x : Value × Nat) => cs.setIfInBounds (off + x.2) x.1) cells = v.cells.toList.zipIdx.foldl (fun cs (x : Value × Nat) => cs.setIfInBounds (off + x.2) x.1) cells := by
          rw [← Array.foldl_toList, Array.toList_zipIdx]
        rw [e]
        exact this

theorem RepL.vals (w : World) (L : Nat → Prop) (vs : List Value) : RepL w L (vs.map .v) vs := ⟨by simp, fun i h1 h2 => by simp only [List.getElem_map]; exact .v _⟩

/-- The operands of a literal, by their places. -/
def partsD (x : St) (ps : Array (Nat × Operand)) : List (Nat × D) := ps.toList.map fun p => (p.1, opd x p.2)

theorem parts_rep {C : Ctx} {a : Act} {w : World} (h : Sim C x a w) (ps : Array (Nat × Operand)) (hj : ∀ p ∈ partsD x ps, p.2 ≠ .junk) : (partsD x ps).length = ((ps.map fun p => (p.1, a.eval p.2)).toList).length ∧
    ∀ i (h1 : i < (partsD x ps).length) (h2 : i < ((ps.map fun p => (p.1, a.eval p.2)).toList).length), (partsD x ps)[i].1 = ((ps.map fun p => (p.1, a.eval p.2)).toList)[i].1 ∧ (partsD x ps)[i].2 ≠ .junk ∧ Rep w (live C.X x.S) (partsD x ps)[i].2 ((ps.map fun p => (p.1, a.eval p.2)).toList)[i].2 := by
  refine ⟨by simp [partsD], fun i h1 h2 => ⟨?_, hj _ (List.getElem_mem h1), ?_⟩⟩
  · simp [partsD]
  · simp only [partsD, List.getElem_map, Array.toList_map]
    exact h.eval _

theorem still_build {t : TypeId} {ps : Array (Nat × Operand)} {fs : Array Field} {places : Array (Nat × Nat)} {z : Value} {ds : List D} (ho : o.op = .build t ps) (hz : ∀ w, (zeroValue t).run P w = .ok z w)
    (hu : ∀ w, (underlying t).run P w = .ok (.struct fs) w) (hp : ∀ w, (fs.mapM fun f => do pure (f.offset, ← sizeOf f.type) : Sem (Array (Nat × Nat))).run P w = .ok places w)
    (hj : ∀ p ∈ partsD x ps, p.2 ≠ .junk) (hd : fillD (places[·]?) (z.cells.toList.map .v) (partsD x ps) = some ds) : Still P G x o .none (.agg ds) := fun C a w _ h => by
  obtain ⟨q1, q2⟩ := parts_rep h ps hj
  obtain ⟨cells', h1, h2⟩ := fill_rep (w := w) (L := live C.X x.S) (places[·]?) (partsD x ps) ((ps.map fun p => (p.1, a.eval p.2)).toList) _ z.cells ds q1 q2 (RepL.vals _ _ _) hd
  refine ⟨.agg cells'.toList.toArray, .agg _ _ h2.1 h2.2, fun w' _ => ?_⟩
  unfold execOp
  simp only [ho, Instr.build, hz, hu, hp, Sem.run_bind, Result.andThen_ok, h1, Sem.run_pure, Array.toArray_toList]

theorem still_buildA {t e : TypeId} {n sz : Nat} {ps : Array (Nat × Operand)} {z : Value} {ds : List D} (ho : o.op = .build t ps) (hz : ∀ w, (zeroValue t).run P w = .ok z w)
    (hu : ∀ w, (underlying t).run P w = .ok (.array n e) w) (hs : ∀ w, (sizeOf e).run P w = .ok sz w)
    (hj : ∀ p ∈ partsD x ps, p.2 ≠ .junk) (hd : fillD (fun i => some (i * sz, sz)) (z.cells.toList.map .v) (partsD x ps) = some ds) : Still P G x o .none (.agg ds) := fun C a w _ h => by
  obtain ⟨q1, q2⟩ := parts_rep h ps hj
  obtain ⟨cells', h1, h2⟩ := fill_rep (w := w) (L := live C.X x.S) (fun i => some (i * sz, sz)) (partsD x ps) ((ps.map fun p => (p.1, a.eval p.2)).toList) _ z.cells ds q1 q2 (RepL.vals _ _ _) hd
  refine ⟨.agg cells'.toList.toArray, .agg _ _ h2.1 h2.2, fun w' _ => ?_⟩
  unfold execOp
  simp only [ho, Instr.build, hz, hu, hs, Sem.run_bind, Result.andThen_ok, h1, Sem.run_pure, Array.toArray_toList]

def newRow' (x : St) (t : Nat) (e : TypeId) (len : Nat) (ds : List D) (y : St) : Prop := ∃ b, y = ⟨x.n, (t, .v (.slice (some ⟨b, 0, none⟩) len len)) :: x.env, ⟨b, e, ds.length, ds⟩ :: x.S⟩

theorem eff_buildSlice {t e : TypeId} {tt len sz : Nat} {ps : Array (Nat × Operand)} {z : Value} {zs : List D} {ds : List D} (ho : o.op = .buildSlice t len ps) (hdst : o.dst = some tt) (hz : ∀ w, (zeroValue e).run P w = .ok z w)
    (hu : ∀ w, (underlying t).run P w = .ok (.slice e) w) (hs : ∀ w, (sizeOf e).run P w = .ok sz w) (hl : 0 < len * sz) (hl2 : len * sz ≤ 2 ^ 24) (hzs : (Array.range (len * sz)).map (fun i => z.cells[i % z.cells.size]!) = (zs.map (fun d => match d with | .v u => u | _ => undef)).toArray) (hzv : ∀ d ∈ zs, ∃ u, d = .v u)
    (hj : ∀ p ∈ partsD x ps, p.2 ≠ .junk) (hd : fillD (fun i => some (i * sz, sz)) zs (partsD x ps) = some ds) : Eff P G x o [] (newRow' x tt e len ds) := fun C a w K Q hG h hK => by
  obtain ⟨q1, q2⟩ := parts_rep h ps hj
  have hzr : RepL w (live C.X x.S) zs ((zs.map (fun d => match d with | .v u => u | _ => undef)).toArray).toList := by
    refine ⟨by simp, fun i h1 h2 => ?_⟩
    obtain ⟨u, hu⟩ := hzv _ (List.getElem_mem h1)
    simp only [List.getElem_map, hu]
    exact .v _
  obtain ⟨cells', h1, h2⟩ := fill_rep (w := w) (L := live C.X x.S) (fun i => some (i * sz, sz)) (partsD x ps) ((ps.map fun p => (p.1, a.eval p.2)).toList) _ _ ds q1 q2 hzr hd
  unfold Oper.wp
  have : (execOp a.eval o).run P w = .ok (.value (.slice (some ⟨w.heap.size, 0, none⟩) len len)) (w.alloc (.cells cells' e)) := by
    unfold execOp
    have hne : ¬ len * sz = 0 := by omega
    have hng : ¬ len * sz > 2 ^ 24 := by omega
    simp only [ho, Instr.buildSlice, hz, hu, hs, Sem.run_bind, Result.andThen_ok, Sem.run_pure, if_neg hne, if_neg hng, hzs, h1]
    simp [newRow]
  rw [this, Oper.upon_value, hdst]
  exact hK _ _ _ ⟨w.heap.size, rfl⟩ (h.new (ds := ds) h2 (by have := h2.1; simpa using this) (fun L => .v _)) (Chg.alloc _ _) (Fr.alloc _ _ _)

/-! ### Stores -/

theorem setCells_heap (b : Nat) : ∀ (vs : List Value) (o' : Nat) (w : World) (cur : Array Value) (e : TypeId), w.heap[b]? = some (.cells cur e (0, 0)) → o' + vs.length ≤ cur.size →
    (w.setCells b o' vs).heap[b]? = some (.cells (vs.zipIdx.foldl (fun cs (x : Value × Nat) => cs.setIfInBounds (o' + x.2) x.1) cur) e (0, 0)) ∧ (∀ k, k ≠ b → (w.setCells b o' vs).heap[k]? = w.heap[k]?) ∧ (w.setCells b o' vs).heap.size = w.heap.size ∧
    (w.setCells b o' vs).os = w.os ∧ (w.setCells b o' vs).tape = w.tape ∧ (w.setCells b o' vs).output = w.output
  | [], o', w, cur, e, h, _ => ⟨h, fun _ _ => rfl, rfl, rfl, rfl, rfl⟩
  | v :: r, o', w, cur, e, h, hl => by
    have h0 : (w.setCell ⟨b, o', none⟩ v).heap[b]? = some (.cells (cur.setIfInBounds o' v) e (0, 0)) := by
      simp [World.setCell, Array.getElem?_modify, h]
    obtain ⟨i1, i2, i3, i4, i5, i6⟩ := setCells_heap b r (o' + 1) (w.setCell ⟨b, o', none⟩ v) (cur.setIfInBounds o' v) e h0 (by simp at hl ⊢; omega)
    refine ⟨?_, fun k hk => ?_, ?_, i4, i5, i6⟩
    · rw [World.setCells, i1, List.zipIdx_cons, List.foldl_cons, Nat.add_zero, zip_shift (fun (c : Array Value) v n => c.setIfInBounds (o' + n) v)]
      congr 3
      funext a b
      rw [Nat.add_assoc, Nat.add_comm 1]
    · rw [World.setCells, i2 k hk, Below.heap_setCell _ _ _ _ hk]
    · rw [World.setCells, i3]; simp

theorem setAll_length : ∀ (ds cs : List D) (off : Nat), (setAll cs off ds).length = cs.length
  | [], cs, off => rfl
  | d :: ds, cs, off => by rw [setAll, setAll_length ds]; simp

/-- A store into an owned block. -/
theorem Sim.store {C : Ctx} {a : Act} {w : World} (h : Sim C x a w) {k o' : Nat} {B : Blk} {ds : List D} {vs : List Value} (hk : x.S[k]? = some B) (hr : RepL w (live C.X x.S) ds vs) (hl : o' + ds.length ≤ B.cs.length) :
    Sim C ⟨x.n, x.env, x.S.set k { B with cs := setAll B.cs o' ds }⟩ a (w.setCells B.b o' vs) ∧ Chg [B.b] w (w.setCells B.b o' vs) ∧ Fr w (bks x.S) (w.setCells B.b o' vs) (bks (x.S.set k { B with cs := setAll B.cs o' ds })) := by
  obtain ⟨h0, cur, h1, h2, h3, h4⟩ := h.blk hk
  have hvl : vs.length = ds.length := hr.1
  obtain ⟨i1, i2, i3, i4, i5, i6⟩ := setCells_heap B.b vs o' w cur B.e h1 (by omega)
  have hkl : k < x.S.length := (List.getElem?_eq_some_iff.1 hk).1
  have hkB : x.S[k] = B := (List.getElem?_eq_some_iff.1 hk).2
  have hbks : bks (x.S.set k { B with cs := setAll B.cs o' ds }) = bks x.S := by
    unfold bks
    rw [List.map_set]
    apply List.ext_getElem (by simp)
    intro i q1 q2
    rw [List.getElem_set]
    split
    · rename_i e; subst e; simp [hkB]
    · rfl
  have hlive : live C.X (x.S.set k { B with cs := setAll B.cs o' ds }) = live C.X x.S := by funext b; simp only [live, hbks]
  have hB : live C.X x.S B.b := live_blk hk
  have H : ∀ b, b < w.heap.size → ¬ live C.X x.S b → (w.setCells B.b o' vs).heap[b]? = w.heap[b]? ∧ ¬ live C.X x.S b := fun b _ hn => ⟨i2 b (fun e => hn (e ▸ hB)), hn⟩
  refine ⟨⟨h.defers, h.size, fun t ht => ?_, ⟨fun B' hB' => ?_, ?_⟩, ?_, h.ex, h.tab⟩, ⟨by rw [i3]; exact Nat.le_refl _, fun b _ hn => i2 b (by simpa using hn)⟩, ?_⟩
  · simp only [hlive]; exact (h.env t ht).mono H
  · simp only [hlive]
    obtain ⟨j, hj, hje⟩ := List.mem_iff_getElem.1 hB'
    rw [List.length_set] at hj
    rw [List.getElem_set] at hje
    by_cases e : k = j
    · rw [if_pos e] at hje
      subst hje
      refine ⟨by rw [i3]; exact h0, _, i1, ?_, by simp only [setAll_length]; exact h3, fun i hi => ?_⟩
      · have := foldl_arr vs.zipIdx cur o'
        have hlen := congrArg List.length this
        have hgen : ∀ (l : List (Value × Nat)) (c : List Value), (l.foldl (fun cs (x : Value × Nat) => cs.set (o' + x.2) x.1) c).length = c.length := by
          intro l; induction l with
          | nil => intro c; rfl
          | cons p l ih => intro c; rw [List.foldl_cons, ih]; simp
        rw [hgen] at hlen
        simp only [Array.length_toList] at hlen
        rw [hlen, h2]
      · have hcs : RepL w (live C.X x.S) B.cs (cur.toList.take B.cs.length) := by
          refine ⟨by simp; omega, fun i q1 q2 => ?_⟩
          obtain ⟨u, hu, hq⟩ := h4 i q1
          have : (cur.toList.take B.cs.length)[i] = u := by
            rw [List.getElem_take]
            rw [← Array.getElem?_toList, List.getElem?_eq_some_iff] at hu
            exact hu.2
          rw [this]; exact hq
        have hset := RepL.setAll ds vs B.cs (cur.toList.take B.cs.length) o' hr hcs
        have htake : ∀ (l : List (Value × Nat)) (c : List Value), (∀ p ∈ l, o' + p.2 < B.cs.length) → l.foldl (fun cs (x : Value × Nat) => cs.set (o' + x.2) x.1) (c.take B.cs.length) = (l.foldl (fun cs (x : Value × Nat) => cs.set (o' + x.2) x.1) c).take B.cs.length := by
          intro l; induction l with
          | nil => intro c _; rfl
          | cons p l ih =>
            intro c hp
            rw [List.foldl_cons, List.foldl_cons, ← ih _ (fun q hq => hp q (List.mem_cons_of_mem _ hq)), List.take_set]
        rw [htake vs.zipIdx cur.toList (fun p hp => by have := List.mem_zipIdx hp; omega), ← foldl_arr] at hset
        simp only at hi
        have hi' := hi
        rw [← hset.1] at hi'
        have hq := hset.2 i hi hi'
        rw [List.getElem_take] at hq
        refine ⟨_, ?_, hq.mono H⟩
        rw [← Array.getElem?_toList, List.getElem?_eq_getElem]
    · rw [if_neg e] at hje
      subst hje
      have hne : x.S[j].b ≠ B.b := fun he => by
        have hn := h.own.apart
        have h1' : (bks x.S)[j]'(by simpa [bks] using hj) = (bks x.S)[k]'(by simpa [bks] using hkl) := by simp [bks, he, hkB]
        have hp := List.pairwise_iff_getElem.1 hn
        rcases Nat.lt_trichotomy j k with hjk | hjk | hjk
        · exact hp j k (by simpa [bks] using hj) (by simpa [bks] using hkl) hjk h1'
        · exact e hjk.symm
        · exact hp k j (by simpa [bks] using hkl) (by simpa [bks] using hj) hjk h1'.symm
      obtain ⟨r0, cur', r1, r2, r3, r4⟩ := h.own.at_ x.S[j] (List.getElem_mem hj)
      refine ⟨by rw [i3]; exact r0, cur', (i2 _ hne).trans r1, r2, r3, fun i hi => ?_⟩
      obtain ⟨u, hu, hq⟩ := r4 i hi
      exact ⟨u, hu, hq.mono H⟩
  · simp only [hbks]; exact h.own.apart
  · refine ⟨i4.trans h.fr.os, i5.trans h.fr.tape, i6.trans h.fr.output, by rw [i3]; exact h.fr.size, fun b hb hn => ?_⟩
    obtain ⟨q1, q2⟩ := h.fr.block b hb hn
    refine ⟨(i2 b (fun e => q2 (e ▸ List.mem_map.2 ⟨B, List.mem_of_getElem? hk, rfl⟩))).trans q1, ?_⟩
    simp only [hbks]; exact q2
  · rw [hbks]
    exact ⟨i4, i5, i6, by rw [i3]; exact Nat.le_refl _, fun b hb hn => ⟨i2 b (fun e => hn (e ▸ List.mem_map.2 ⟨B, List.mem_of_getElem? hk, rfl⟩)), hn⟩⟩

theorem eff_store {t : TypeId} {k b o' n : Nat} {B : Blk} {d : D} {cs' : List D} {y z : Operand} (ho : o.op = .store t y z) (hdst : o.dst = none) (hy : opd x y = .v (.pointer (some ⟨b, o', none⟩)))
    (hk : x.S[k]? = some B) (hb : B.b = b) (hz : opd x z = d) (hj : d ≠ .junk) (h1 : (cellsOf d).all one = true) (hn : ∀ w, (sizeOf t).run P w = .ok n w) (hln : (cellsOf d).length = n) (hl : o' + n ≤ B.cs.length) (hcs : setAll B.cs o' (cellsOf d) = cs') :
    Eff P G x o [b] (fun y => y = ⟨x.n, x.env, x.S.set k { B with cs := cs' }⟩) := fun C a w K Q hG h hK => by
  subst hcs hb
  have hr := h.eval z
  rw [hz] at hr
  have hc := hr.cells hj
  obtain ⟨s1, s2, s3⟩ := h.store hk hc (o' := o') (by omega)
  obtain ⟨h0, cur, q1, q2, q3, q4⟩ := h.blk hk
  have hvl : (a.eval z).cells.toList.length = n := by rw [hc.1, hln]
  have hrun := run_storeCells_cells (P := P) B.b o' (a.eval z).cells.toList 0 w (fun j hj => by
      have : (o' + 0 + j) < cur.size := by omega
      rw [cell_blk q1 (u := cur[o' + 0 + j]) (by simp [this])]; rfl)
    (fun j hj => by unfold World.frozen?; simp [q1]) (fun v hv => by
      obtain ⟨j, hj, rfl⟩ := List.mem_iff_getElem.1 hv
      have hj' : j < (cellsOf d).length := by rw [← hc.1]; exact hj
      exact (hc.2 j hj' hj).one_cell (List.all_eq_true.1 h1 _ (List.getElem_mem hj')))
  have hrun2 : (execOp a.eval o).run P w = .ok .skip (w.setCells B.b o' (a.eval z).cells.toList) := by
    unfold execOp
    have hsz : (a.eval z).cells.size = n := by simpa using hvl
    simp only [Nat.add_zero] at hrun
    simp [ho, h.flat hy, Instr.storeAt, Instr.sureAddr, storeVar, hn, hsz, hrun]
  unfold Oper.wp
  rw [hrun2, Oper.upon_skip, hdst]
  exact hK _ _ _ rfl s1 s2 s3

end Go.Proofs.YtcogdagfcndbfaaDoor.V
