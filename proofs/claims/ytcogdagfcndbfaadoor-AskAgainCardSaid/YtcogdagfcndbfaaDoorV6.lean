/-
  A walk at the level of values. Part 6: append.
-/
import Derived.Test.YtcogdagfcndbfaaDoorV5
namespace Go.Proofs.YtcogdagfcndbfaaDoor.V
open Go.RowKit
set_option linter.unusedVariables false
set_option linter.unusedSimpArgs false

variable {P : Program} {G : List (Nat × List Value)} {x : St} {o : Oper}

def grownTo (x : St) (t : Nat) (e : TypeId) (sz len : Nat) (cs : List D) (S : List Blk) (y : St) : Prop :=
  ∃ b cap, len ≤ cap ∧ cap ≤ maxLen ∧ y = ⟨x.n, (t, .v (.slice (some ⟨b, 0, none⟩) len cap)) :: x.env, ⟨b, e, cap * sz, cs⟩ :: S⟩

/-- What append leaves, whatever the row appended to was. -/
theorem Sim.grown {C : Ctx} {a : Act} {w w' : World} (h : Sim C x a w) {t g cap e sz m : Nat} {row : Option Nat} {S : List Blk} {cs : List D} {cur : Array Value}
    (hS : S.Sublist x.S) (hrow : ∀ k, row = some k → k ∈ bks x.S ∧ k ∉ bks S) (hgrow : w.grownBy w' row) (hg : row = some g ∨ g = w.heap.size) (hlt : g < w'.heap.size)
    (hcur : w'.heap[g]? = some (.cells cur e (0, 0))) (hsz : cur.size = cap * sz) (hl : cs.length ≤ cap * sz) (hr : ∀ i (h : i < cs.length), ∃ u, cur[i]? = some u ∧ Rep w (live C.X x.S) cs[i] u) :
    Sim C ⟨x.n, (t, .v (.slice (some ⟨g, 0, none⟩) m cap)) :: x.env, ⟨g, e, cap * sz, cs⟩ :: S⟩ (a.put (some t) (.slice (some ⟨g, 0, none⟩) m cap)) w' ∧ Chg row.toList w w' ∧ Fr w (bks x.S) w' (bks (⟨g, e, cap * sz, cs⟩ :: S)) := by
  have hsub : (bks S).Sublist (bks x.S) := List.Sublist.map _ hS
  have hlt' : ∀ b, live C.X x.S b → b < w.heap.size := fun b hb => by
    rcases hb with hb | hb
    · exact Nat.lt_of_lt_of_le (h.ex b hb).1 h.fr.size
    · obtain ⟨B, hB, rfl⟩ := List.mem_map.1 hb
      exact (h.own.at_ B hB).1
  have hgS : g ∉ bks S := by
    rcases hg with hg | hg
    · exact (hrow g hg).2
    · intro hm; have := hlt' g (.inr (hsub.subset hm)); omega
  have hgX : ¬ C.X g := fun hx => by
    rcases hg with hg | hg
    · exact h.exS g hx (hrow g hg).1
    · have := hlt' g (.inl hx); omega
  have hgold : g < w.heap.size → g ∈ bks x.S := fun hlt => by
    rcases hg with hg | hg
    · exact (hrow g hg).1
    · omega
  have H : ∀ b, b < w.heap.size → ¬ live C.X x.S b → w'.heap[b]? = w.heap[b]? ∧ ¬ live C.X (⟨g, e, cap * sz, cs⟩ :: S) b := fun b hb hn => by
    refine ⟨hgrow.block b hb (fun hm => hn (.inr (hrow b hm.symm).1)), fun hl => ?_⟩
    rcases hl with hl | hl
    · exact hn (.inl hl)
    · simp only [bks, List.map_cons, List.mem_cons] at hl
      rcases hl with hl | hl
      · subst hl; exact hn (.inr (hgold hb))
      · exact hn (.inr (hsub.subset hl))
  have base : Sim C ⟨x.n, x.env, ⟨g, e, cap * sz, cs⟩ :: S⟩ a w' := by
    refine ⟨h.defers, h.size, fun t ht => (h.env t ht).mono H, ⟨fun B hB => ?_, ?_⟩, ?_, h.ex, h.tab⟩
    · rcases List.mem_cons.1 hB with rfl | hB
      · refine ⟨hlt, cur, hcur, hsz, hl, fun i hi => ?_⟩
        obtain ⟨u, hu, hq⟩ := hr i hi
        exact ⟨u, hu, hq.mono H⟩
      · obtain ⟨r0, cur', r1, r2, r3, r4⟩ := h.own.at_ B (hS.subset hB)
        have hBm : B.b ∈ bks S := List.mem_map.2 ⟨B, hB, rfl⟩
        have hh := hgrow.block B.b r0 (fun hm => (hrow B.b hm.symm).2 hBm)
        refine ⟨lt_of_same r0 hh, cur', hh.trans r1, r2, r3, fun i hi => ?_⟩
        obtain ⟨u, hu, hq⟩ := r4 i hi
        exact ⟨u, hu, hq.mono H⟩
    · show (g :: bks S).Nodup
      exact List.nodup_cons.2 ⟨hgS, h.own.apart.sublist hsub⟩
    · refine ⟨hgrow.os.trans h.fr.os, hgrow.tape.trans h.fr.tape, hgrow.output.trans h.fr.output, Nat.le_trans h.fr.size hgrow.size, fun b hb hn => ?_⟩
      obtain ⟨q1, q2⟩ := h.fr.block b hb hn
      have hb' := Nat.lt_of_lt_of_le hb h.fr.size
      refine ⟨(hgrow.block b hb' (fun hm => q2 (hrow b hm.symm).1)).trans q1, fun hm => ?_⟩
      simp only [bks, List.map_cons, List.mem_cons] at hm
      rcases hm with hm | hm
      · subst hm; exact q2 (hgold hb')
      · exact q2 (hsub.subset hm)
  refine ⟨base.put (.v _), ⟨hgrow.size, fun b hb hn => hgrow.block b hb (fun hm => hn (by rw [← hm]; simp))⟩, ⟨hgrow.os, hgrow.tape, hgrow.output, hgrow.size, fun b hb hn => ?_⟩⟩
  refine ⟨hgrow.block b hb (fun hm => hn (hrow b hm.symm).1), fun hm => ?_⟩
  simp only [bks, List.map_cons, List.mem_cons] at hm
  rcases hm with hm | hm
  · subst hm; exact hn (hgold hb)
  · exact hn (hsub.subset hm)

theorem run_append {s y : Operand} {t : Nat} {v v' : Value} {w w' : World} {a : Act} (ho : o.op = .call { callee := .builtin .append, args := #[s, y], argTypes := #[t, t] }) (hs : a.eval s = v) {u : Value} (hy : a.eval y = u)
    (hrun : (Builtin.append_ #[t, t] o.type #[v, u]).run P w = .ok v' w') : (execOp a.eval o).run P w = .ok (.value v') w' := by
  unfold execOp
  simp [ho, resolve, invoke, builtin, hs, hy, hrun]

theorem info_at {e sz bytes : Nat} {z : Value} (hi : (P.info? e).map (fun i => (i.zero, i.size, i.bytes)) = some (some z, sz, bytes)) : ∃ i, P.info? e = some i ∧ i.zero = some z ∧ i.size = sz ∧ i.bytes = bytes := by
  cases h : P.info? e with
  | none => simp [h] at hi
  | some i => simp [h] at hi; exact ⟨i, rfl, hi⟩

/-- append onto a row of one's own. -/
theorem eff_append {s y : Operand} {t e tt sz bytes n m b cap k : Nat} {z : Value} {B : Blk} {cs : List D} (ho : o.op = .call { callee := .builtin .append, args := #[s, y], argTypes := #[t, t] }) (hd : o.dst = some tt)
    (ht : P.underlying t = some (.slice e)) (hi : (P.info? e).map (fun i => (i.zero, i.size, i.bytes)) = some (some z, sz, bytes)) (hzs : z.cells.size = sz) (hsz : 0 < sz)
    (hs : opd x s = .v (.slice (some ⟨b, 0, none⟩) n cap)) (hk : x.S[k]? = some B) (hb : B.b = b) (he : B.e = e) (hsize : B.size = cap * sz) (hl : B.cs.length = n * sz) (hn : n ≤ cap) (hcap : cap ≤ maxLen)
    (hy : opd x y = .list sz cs m) (hone : ∀ d ∈ cs, one d = true) (hm : 0 < m) (h63 : n + m ≤ maxLen) (hbytes : (n + m) * bytes ≤ 140737488355328) :
    Eff P G x o [b] (grownTo x tt e sz (n + m) (B.cs ++ cs) (x.S.eraseIdx k)) := fun C a w K Q hG h hK => by
  subst hb he
  obtain ⟨i, hi1, hi2, hi3, hi4⟩ := info_at hi
  obtain ⟨r0, cur, r1, r2, r3, r4⟩ := h.blk hk
  have hr := h.eval y
  rw [hy] at hr
  generalize hg : a.eval y = u at hr
  cases hr with
  | nil => omega
  | list _ _ _ b' o' cap' f hl' q1 q2 hb' hL hc hrr =>
    have hown : w.ownsRow 0 B.e sz (.slice (some ⟨B.b, 0, none⟩) n cap) n (cur.toList.take (n * sz)) :=
      ⟨by simp; omega, .inr ⟨B.b, cap, cur, rfl, Nat.zero_le _, r1, hn, hcap, by omega, rfl⟩⟩
    obtain ⟨v', w', hrun, h2, h3, _, h5⟩ := run_append_own_at (P := P) w 0 t o.type B.e i z sz bytes ht hi1 hi2 hi3 hi4 hzs hsz _ n _ hown ⟨b', o', none⟩ m cap' ((List.range cs.length).map f) (by simp [hl']) (fun j u hu => by
        rw [Addr.add_mid]
        obtain ⟨hj, he⟩ := List.getElem?_eq_some_iff.1 hu
        simp only [List.length_map, List.length_range] at hj
        rw [hc j hj, ← he]; simp) (fun u hu => by
        obtain ⟨j, hj, rfl⟩ := List.mem_map.1 hu
        have hj' := List.mem_range.1 hj
        exact (hrr j hj').one_cell (hone _ (List.getElem_mem hj'))) h63 hbytes (Nat.zero_le _)
    obtain ⟨g, cap2, rfl, _, hlt⟩ := h2.form (by omega)
    have h6 : (Value.slice (some ⟨B.b, 0, none⟩) n cap).ownBlock = some g ∨ g = w.heap.size := by
      rcases h5 with h5 | h5
      · exact .inl (by rw [← h5]; rfl)
      · right; simpa [Value.ownBlock] using h5
    obtain ⟨_, h2⟩ := h2
    rcases h2 with ⟨h2, _⟩ | ⟨g', cap', cur', e1, _, e2, e3, e4, e5, e6⟩
    · cases h2
    · have e1' : g = g' ∧ cap2 = cap' := by simpa using e1
      obtain ⟨rfl, rfl⟩ := e1'
      have hlen : (B.cs ++ cs).length = (n + m) * sz := by rw [List.length_append, hl, hl', Nat.add_mul]
      have hge : (n + m) * sz ≤ cap2 * sz := Nat.mul_le_mul_right _ e3
      have hcur : ∀ i, i < (n + m) * sz → cur'[i]? = (cur.toList.take (n * sz) ++ (List.range cs.length).map f)[i]? := fun i hi => by
        rw [← e6, List.getElem?_take_of_lt hi, Array.getElem?_toList]
      obtain ⟨s1, s2, s3⟩ := h.grown (t := tt) (m := n + m) (e := B.e) (sz := sz) (S := x.S.eraseIdx k) (cs := B.cs ++ cs) (row := some B.b) (g := g) (cap := cap2) (List.eraseIdx_sublist _ _) (fun k' hk' => by
          have : B.b = k' := by simpa using hk'
          subst this
          refine ⟨List.mem_map.2 ⟨B, List.mem_of_getElem? hk, rfl⟩, fun hm => ?_⟩
          have hp : (bks x.S).Perm (B.b :: bks (x.S.eraseIdx k)) := by have := (perm_pick hk).map Blk.b; simpa [bks] using this
          exact (List.nodup_cons.1 (hp.nodup_iff.1 h.own.apart)).1 hm) h3 h6 hlt e2 e5 (by omega) (fun i hi => by
          rw [hlen] at hi
          rw [hcur i hi]
          by_cases hin : i < n * sz
          · obtain ⟨u, hu, hq⟩ := r4 i (by omega)
            refine ⟨u, ?_, ?_⟩
            · rw [List.getElem?_append_left (by simp; omega), List.getElem?_take_of_lt hin, Array.getElem?_toList, hu]
            · rw [List.getElem_append_left (by omega)]; exact hq
          · have hin2 : i - n * sz < cs.length := by rw [hl']; rw [Nat.add_mul] at hi; omega
            refine ⟨f (i - n * sz), ?_, ?_⟩
            · rw [List.getElem?_append_right (by simp; omega)]
              have : (cur.toList.take (n * sz)).length = n * sz := by simp; omega
              rw [this]
              simp [hin2]
            · rw [List.getElem_append_right (by omega)]
              have := hrr (i - n * sz) hin2
              simp only [hl]
              exact this)
      unfold Oper.wp
      rw [run_append (P := P) ho (h.flat hs) hg hrun, Oper.upon_value, hd]
      exact hK _ _ _ ⟨g, cap2, e3, e4, rfl⟩ s1 s2 s3

/-- append onto nil. -/
theorem eff_appendNil {s y : Operand} {t e tt sz bytes m : Nat} {z : Value} {cs : List D} (ho : o.op = .call { callee := .builtin .append, args := #[s, y], argTypes := #[t, t] }) (hd : o.dst = some tt)
    (ht : P.underlying t = some (.slice e)) (hi : (P.info? e).map (fun i => (i.zero, i.size, i.bytes)) = some (some z, sz, bytes)) (hzs : z.cells.size = sz) (hsz : 0 < sz)
    (hs : opd x s = .v (.slice none 0 0)) (hy : opd x y = .list sz cs m) (hone : ∀ d ∈ cs, one d = true) (hm : 0 < m) (h63 : m ≤ maxLen) (hbytes : m * bytes ≤ 140737488355328) :
    Eff P G x o [] (grownTo x tt e sz m cs x.S) := fun C a w K Q hG h hK => by
  obtain ⟨i, hi1, hi2, hi3, hi4⟩ := info_at hi
  have hr := h.eval y
  rw [hy] at hr
  generalize hg : a.eval y = u at hr
  cases hr with
  | nil => omega
  | list _ _ _ b' o' cap' f hl' q1 q2 hb' hL hc hrr =>
    have hown : w.ownsRow 0 e sz (.slice none 0 0) 0 [] := ⟨by simp, .inl ⟨rfl, rfl⟩⟩
    obtain ⟨v', w', hrun, h2, h3, _, h5⟩ := run_append_own_at (P := P) w 0 t o.type e i z sz bytes ht hi1 hi2 hi3 hi4 hzs hsz _ 0 _ hown ⟨b', o', none⟩ m cap' ((List.range cs.length).map f) (by simp [hl']) (fun j u hu => by
        rw [Addr.add_mid]
        obtain ⟨hj, he⟩ := List.getElem?_eq_some_iff.1 hu
        simp only [List.length_map, List.length_range] at hj
        rw [hc j hj, ← he]; simp) (fun u hu => by
        obtain ⟨j, hj, rfl⟩ := List.mem_map.1 hu
        have hj' := List.mem_range.1 hj
        exact (hrr j hj').one_cell (hone _ (List.getElem_mem hj'))) (by rw [Nat.zero_add]; exact h63) (by rw [Nat.zero_add]; exact hbytes) (Nat.zero_le _)
    simp only [Nat.zero_add, List.nil_append] at h2
    obtain ⟨g, cap2, rfl, _, hlt⟩ := h2.form (by omega)
    have h6 : (none : Option Nat) = some g ∨ g = w.heap.size := by
      rcases h5 with h5 | h5
      · simp [Value.ownBlock] at h5
      · right; simpa [Value.ownBlock] using h5
    obtain ⟨_, h2⟩ := h2
    rcases h2 with ⟨h2, _⟩ | ⟨g', cap', cur', e1, _, e2, e3, e4, e5, e6⟩
    · cases h2
    · have e1' : g = g' ∧ cap2 = cap' := by simpa using e1
      obtain ⟨rfl, rfl⟩ := e1'
      have hge : m * sz ≤ cap2 * sz := Nat.mul_le_mul_right _ e3
      obtain ⟨s1, s2, s3⟩ := h.grown (t := tt) (m := m) (e := e) (sz := sz) (S := x.S) (cs := cs) (row := none) (g := g) (cap := cap2) (List.Sublist.refl _) (fun k' hk' => by cases hk') h3 h6 hlt e2 e5 (by omega) (fun i hi => by
          refine ⟨f i, ?_, hrr i hi⟩
          have : cur'[i]? = ((List.range cs.length).map f)[i]? := by rw [← e6, List.getElem?_take_of_lt (by omega), Array.getElem?_toList]
          rw [this]; simp [hi])
      unfold Oper.wp
      rw [run_append (P := P) ho (h.flat hs) hg hrun, Oper.upon_value, hd]
      exact hK _ _ _ ⟨g, cap2, e3, e4, rfl⟩ s1 s2 s3

/-- Nothing is appended. -/
theorem still_append0 {s y : Operand} {t e sz n cap : Nat} {ad : Option Addr} {cs : List D} (ho : o.op = .call { callee := .builtin .append, args := #[s, y], argTypes := #[t, t] })
    (hu : ∀ w, (underlying t).run P w = .ok (.slice e) w) (hsz : ∀ w, (sizeOf e).run P w = .ok sz w) (hs : opd x s = .v (.slice ad n cap)) (hn : n ≤ cap) (hy : opd x y = .list sz cs 0) : Still P G x o .none (.v (.slice ad n cap)) := fun C a w _ h => by
  refine ⟨_, .v _, fun w' _ => ?_⟩
  have hr := h.eval y
  rw [hy] at hr
  generalize hg : a.eval y = u at hr
  refine run_append (P := P) ho (h.flat hs) hg ?_
  have hn' : n + 0 ≤ cap := hn
  cases hr with
  | nil => cases ad <;> simp [Builtin.append_, hu, hsz, Builtin.lenOf, Builtin.firstCells, storeCells, hn, Nat.not_lt.2 hn]
  | list _ _ _ b' o' cap' f hl' q1 q2 hb' hL hc hrr => cases ad <;> simp [Builtin.append_, hu, hsz, Builtin.lenOf, Builtin.firstCells, storeCells, loadCells, loadCellsFrom, hn, Nat.not_lt.2 hn]

end Go.Proofs.YtcogdagfcndbfaaDoor.V
