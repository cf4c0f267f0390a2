/-
  A walk at the level of values. Part 15: rows of one's own that are cut, filled and cleared in place; calls that look at one row and keep another block.
-/
import Derived.Test.YtcogdagfcndbfaaDoorVd
import Derived.ArgAppend
namespace Go.Proofs.YtcogdagfcndbfaaDoor.V
open Go.RowKit
set_option linter.unusedVariables false
set_option linter.unusedSimpArgs false

variable {P : Program} {C : Ctx} {G : List (Nat × List Value)} {Q : Exit → St → Prop} {x : St} {ops : Array Oper} {l : List Oper} {o : Oper} {S1 T : List Nat} {fuel i : Nat} {ld : Array Bool}

theorem setAll_eq : ∀ (ds cs : List D) (off : Nat), off + ds.length ≤ cs.length → setAll cs off ds = cs.take off ++ ds ++ cs.drop (off + ds.length)
  | [], cs, off, h => by simp [setAll]
  | d :: ds, cs, off, h => by
    simp only [List.length_cons] at h
    have e : cs.set off d = (cs.take off ++ [d]) ++ cs.drop (off + 1) := by rw [List.set_eq_take_append_cons_drop, if_pos (by omega)]; simp
    have hl : (cs.take off ++ [d]).length = off + 1 := by simp; omega
    rw [setAll, setAll_eq ds _ (off + 1) (by simp; omega), e, List.take_left' hl, ← List.drop_drop, List.drop_left' hl, List.drop_drop]
    simp only [List.append_assoc, List.cons_append, List.nil_append, List.length_cons]
    congr 4
    omega

theorem fm_set {α : Type} {g : α → List D} {sz : Nat} (hg : ∀ a, (g a).length = sz) (ls : List α) {i : Nat} (a : α) (hi : i < ls.length) : setAll (ls.flatMap g) (i * sz) (g a) = (ls.set i a).flatMap g := by
  have h1 : (i + 1) * sz ≤ ls.length * sz := Nat.mul_le_mul_right _ hi
  rw [Nat.succ_mul] at h1
  rw [setAll_eq _ _ _ (by rw [fm_len hg, hg]; exact h1), hg, List.set_eq_take_append_cons_drop, if_pos hi, fm_take hg, ← Nat.succ_mul, fm_drop hg]
  simp [List.flatMap_append]

/-- What is known of a block's cells may be less, or nothing. -/
theorem Wk.recs {n : Nat} {l : List (Nat × D)} {S : List Blk} {k : Nat} {B : Blk} {cs' : List D} (hk : S[k]? = some B) (hl : cs'.length ≤ B.size) (hc : ∀ (i : Nat) (d : D), cs'[i]? = some d → B.cs[i]? = some d ∨ d = D.junk) : Wk ⟨n, l, S⟩ ⟨n, l, S.set k { B with cs := cs' }⟩ := fun C a w h => by
  have hkl := (List.getElem?_eq_some_iff.1 hk).1
  have hkB := (List.getElem?_eq_some_iff.1 hk).2
  have hbks : bks (S.set k { B with cs := cs' }) = bks S := by
    unfold bks
    rw [List.map_set]
    apply List.ext_getElem (by simp)
    intro i q1 q2
    rw [List.getElem_set]
    split
    · rename_i e; subst e; simp [hkB]
    · rfl
  have hlive : live C.X (S.set k { B with cs := cs' }) = live C.X S := by funext b; simp only [live, hbks]
  refine ⟨h.defers, h.size, fun t ht => ?_, ⟨fun B' hB' => ?_, ?_⟩, ?_, h.ex, h.tab⟩
  · simp only [hlive]; exact h.env t ht
  · simp only [hlive]
    obtain ⟨j, hj, hje⟩ := List.mem_iff_getElem.1 hB'
    rw [List.length_set] at hj
    rw [List.getElem_set] at hje
    by_cases e : k = j
    · rw [if_pos e] at hje
      subst hje
      obtain ⟨r0, cur, r1, r2, r3, r4⟩ := h.own.at_ B (List.mem_of_getElem? hk)
      refine ⟨r0, cur, r1, r2, hl, fun i hi => ?_⟩
      simp only at hi hl
      have hi2 : i < cur.size := by omega
      rcases hc i _ (List.getElem?_eq_getElem hi) with hd | hd
      · obtain ⟨hd1, hd2⟩ := List.getElem?_eq_some_iff.1 hd
        obtain ⟨u, hu, hq⟩ := r4 i hd1
        rw [hd2] at hq
        exact ⟨u, hu, hq⟩
      · exact ⟨cur[i], by simp [hi2], by simp only [hd]; exact .junk _⟩
    · rw [if_neg e] at hje
      subst hje
      exact h.own.at_ _ (List.getElem_mem hj)
  · simp only [hbks]; exact h.own.apart
  · simp only [hbks]; exact h.fr

theorem OD.recs {k : Nat} {B : Blk} {cs' : List D} (hk : x.S[k]? = some B) (hl : cs'.length ≤ B.size) (hc : ∀ (i : Nat) (d : D), cs'[i]? = some d → B.cs[i]? = some d ∨ d = D.junk) (K : OD P C ops l ⟨x.n, x.env, x.S.set k { B with cs := cs' }⟩ Q) : OD P C ops l x Q := OD.wk (Wk.recs hk hl hc) K

/-! ### A slice of a row of one's own -/

/-- Where a slice expression's row begins. -/
def offs (cap l sz o' : Nat) : Nat := if cap = l then o' else o' + l * sz

theorem still_rsliceG {t e : TypeId} {b o' len cap sz l h' : Nat} {y : Operand} {lo hi : Option Operand} (ho : o.op = .slice t y lo hi none) (hy : opd x y = .v (.slice (some ⟨b, o', none⟩) len cap)) (hlo : bound x lo l 0) (hhi : bound x hi h' len)
    (hu : ∀ w, (underlying t).run P w = .ok (.slice e) w) (hs : ∀ w, (sizeOf e).run P w = .ok sz w) (h1 : l ≤ h') (h2 : h' ≤ cap) : Still P G x o .none (.v (.slice (some ⟨b, offs cap l sz o', none⟩) (h' - l) (cap - l))) := fun C a w _ h =>
  ⟨_, .v _, fun w' _ => by
    have b1 := bound_eval h hlo
    have b2 := bound_eval h hhi
    have b3 := fun w => run_sbounds (P := P) (il := true) (w := w) b1 b2 h1 h2
    unfold execOp offs
    simp only [ho, h.flat hy, Instr.sliceAt, Instr.slice, hu, Sem.run_bind, Result.andThen_ok, Option.map_none, b3, hs, Sem.run_pure]
    by_cases hc : cap = l
    · rw [if_pos hc, if_pos hc]
    · rw [if_neg hc, if_neg hc]; simp only [Option.map_some, Addr.add_mid]⟩

theorem sl_rowG {t e : TypeId} {sz l h' b o' len cap : Nat} {lo hi : Option Operand} (hlo : lo = none → l = 0) (hhi : hi = none → h' = len)
    (hu : ∀ w, (underlying t).run P w = .ok (.slice e) w) (hs : ∀ w, (sizeOf e).run P w = .ok sz w) (h1 : l ≤ h') (h2 : h' ≤ cap) : Rs P G t lo hi l h' (.v (.slice (some ⟨b, o', none⟩) len cap)) (.v (.slice (some ⟨b, offs cap l sz o', none⟩) (h' - l) (cap - l))) := fun x o y ho hy hl hh =>
  still_rsliceG ho hy (bound_of hl hlo) (bound_of hh hhi) hu hs h1 h2

theorem still_rslice3 {t e : TypeId} {b o' len cap sz l h' m : Nat} {k1 k2 k3 : IntKind} {y lo hi mx : Operand} (ho : o.op = .slice t y (some lo) (some hi) (some mx)) (hy : opd x y = .v (.slice (some ⟨b, o', none⟩) len cap)) (hlo : opd x lo = .v (.int k1 l)) (hhi : opd x hi = .v (.int k2 h')) (hmx : opd x mx = .v (.int k3 m))
    (hu : ∀ w, (underlying t).run P w = .ok (.slice e) w) (hs : ∀ w, (sizeOf e).run P w = .ok sz w) (h1 : l ≤ h') (h2 : h' ≤ m) (h3 : m ≤ cap) : Still P G x o .none .junk := fun C a w _ h =>
  ⟨.slice (some ⟨b, if m = l then o' else o' + l * sz, none⟩) (h' - l) (m - l), .junk _, fun w' _ => by
    have b3 : ∀ w, (Instr.sliceBounds true len cap (some (.int k1 l)) (some (.int k2 h')) (some (.int k3 m))).run P w = .ok (l, h', m) w := fun w => by
      unfold Instr.sliceBounds
      simp [run_sbound, h1, h2, h3]
    unfold execOp
    simp only [ho, h.flat hy, h.flat hlo, h.flat hhi, h.flat hmx, Instr.sliceAt, Instr.slice, hu, Sem.run_bind, Result.andThen_ok, Option.map_some, b3, hs, Sem.run_pure]
    by_cases hc : m = l
    · rw [if_pos hc, if_pos hc]
    · rw [if_neg hc, if_neg hc]; simp only [Option.map_some, Addr.add_mid]⟩

/-! ### append within a row -/

theorem eff_appendIn {s y : Operand} {t e tt sz n m b cap k oy c : Nat} {B : Blk} {new cs' : List D} (ho : o.op = .call { callee := .builtin .append, args := #[s, y], argTypes := #[t, t] }) (hd : o.dst = some tt)
    (ht : P.underlying t = some (.slice e)) (hi : (P.info? e).map (fun i => i.size) = some sz)
    (hs : opd x s = .v (.slice (some ⟨b, 0, none⟩) n cap)) (hk : x.S[k]? = some B) (hb : B.b = b) (hy : opd x y = .v (.slice (some ⟨b, oy, none⟩) m c))
    (hnew : (B.cs.drop oy).take (m * sz) = new) (hlen : new.length = m * sz) (hone : ∀ d ∈ new, one d = true) (hroom : n + m ≤ cap) (hl : n * sz + m * sz ≤ B.cs.length) (hcs : setAll B.cs (n * sz) new = cs') :
    Eff P G x o [b] (fun y => y = ⟨x.n, (tt, .v (.slice (some ⟨b, 0, none⟩) (n + m) cap)) :: x.env, x.S.set k { B with cs := cs' }⟩) := fun C a w K Q hG h hK => by
  subst hcs hb
  obtain ⟨i, hi1, rfl⟩ : ∃ i, P.info? e = some i ∧ i.size = sz := by
    cases h : P.info? e with
    | none => simp [h] at hi
    | some i => simp [h] at hi; exact ⟨i, rfl, hi⟩
  obtain ⟨h0, cur, q1, q2, q3, q4⟩ := h.blk hk
  have hin : ∀ j, j < m * i.size → ∃ hj : oy + j < B.cs.length, ∃ hn : j < new.length, new[j] = B.cs[oy + j] := fun j hj => by
    have h1 : j < new.length := by omega
    have h2 : oy + j < B.cs.length := by
      have := congrArg List.length hnew
      rw [List.length_take, List.length_drop, hlen] at this
      omega
    refine ⟨h2, h1, ?_⟩
    have e2 : new[j]? = some B.cs[oy + j] := by rw [← hnew, List.getElem?_take, if_pos hj, List.getElem?_drop, List.getElem?_eq_getElem h2]
    rw [List.getElem?_eq_getElem h1] at e2
    exact Option.some.inj e2
  let vs : List Value := (List.range (m * i.size)).map fun j => cur.getD (oy + j) undef
  have hvl : vs.length = m * i.size := by simp [vs]
  have hv : ∀ j (hj : j < m * i.size), ∃ u, cur[oy + j]? = some u ∧ vs[j]? = some u ∧ Rep w (live C.X x.S) (new[j]'(by omega)) u := fun j hj => by
    obtain ⟨h1, h2, h3⟩ := hin j hj
    obtain ⟨u, hu, hq⟩ := q4 (oy + j) h1
    refine ⟨u, hu, ?_, h3 ▸ hq⟩
    simp [vs, hj, hu]
  have hr : RepL w (live C.X x.S) new vs := ⟨by rw [hvl, hlen], fun j h1 h2 => by
    obtain ⟨u, _, hu, hq⟩ := hv j (by omega)
    rw [List.getElem?_eq_getElem h2] at hu
    rw [Option.some.inj hu]; exact hq⟩
  obtain ⟨s1, s2, s3⟩ := h.store hk hr (o' := n * i.size) (by rw [hlen]; exact hl)
  have hrun := run_append_room_cells (P := P) w t o.type e i ht hi1 B.b 0 n cap ⟨B.b, oy, none⟩ m c vs hvl (fun j u hu => by
      rw [Addr.add_mid]
      have hj : j < m * i.size := by rw [← hvl]; exact (List.getElem?_eq_some_iff.1 hu).1
      obtain ⟨u', hu1, hu2, _⟩ := hv j hj
      rw [hu2] at hu
      rw [← hu]; exact cell_blk q1 hu1) (fun u hu => by
      obtain ⟨j, hj, rfl⟩ := List.mem_iff_getElem.1 hu
      have hj' : j < new.length := by omega
      exact (hr.2 j hj' hj).one_cell (hone _ (List.getElem_mem hj'))) hroom (fun j hj => by
      have : (0 + n * i.size + j) < cur.size := by rw [hvl] at hj; omega
      rw [cell_blk q1 (u := cur[0 + n * i.size + j]) (by simp [this])]; rfl) (fun j hj => by unfold World.frozen?; simp [q1])
  rw [Nat.zero_add] at hrun
  have hrun2 := run_append (o := o) (a := a) ho (h.flat hs) (h.flat hy) hrun
  unfold Oper.wp
  rw [hrun2, Oper.upon_value, hd]
  exact hK _ _ _ rfl (s1.put (.v _)) s2 s3

theorem AStep.appendIn {s y : Operand} {t e tt sz n m b cap k oy c : Nat} {B : Blk} {new cs' : List D} (hi' : ops[i]? = some o) (hw : Wants ops x o true) (ho : o.op = .call { callee := .builtin .append, args := #[s, y], argTypes := #[t, t] }) (hd : o.dst = some tt)
    (ht : P.underlying t = some (.slice e)) (hi : (P.info? e).map (fun i => i.size) = some sz)
    (hs : opd x s = .v (.slice (some ⟨b, 0, none⟩) n cap)) (hk : x.S[k]? = some B) (hb : B.b = b) (hy : opd x y = .v (.slice (some ⟨b, oy, none⟩) m c))
    (hnew : (B.cs.drop oy).take (m * sz) = new) (hlen : new.length = m * sz) (hone : ∀ d ∈ new, one d = true) (hroom : n + m ≤ cap) (hl : n * sz + m * sz ≤ B.cs.length) (hcs : setAll B.cs (n * sz) new = cs') (hT : ∀ b ∈ T, b ∈ bks (x.S.eraseIdx k))
    (K : AD P C ops S1 T fuel (ld.setIfInBounds i true) ⟨x.n, (tt, .v (.slice (some ⟨b, 0, none⟩) (n + m) cap)) :: x.env, x.S.set k { B with cs := cs' }⟩ Q) : AStep P C ops S1 T fuel ld x Q i :=
  AStep.eff hi' hw (eff_appendIn ho hd ht hi hs hk hb hy hnew hlen hone hroom hl hcs) (fun C a w hs b' hb' => hb ▸ away hs hk hT b' hb') (fun b' hb' => by
    have : b' = b := by simpa using hb'
    subst this; rw [← hb]; exact mem_bks hk) fun y hy => hy ▸ K
theorem OD.appendIn {s y : Operand} {t e tt sz n m b cap k oy c : Nat} {B : Blk} {new cs' : List D} (hw : Wants ops x o true) (ho : o.op = .call { callee := .builtin .append, args := #[s, y], argTypes := #[t, t] }) (hd : o.dst = some tt)
    (ht : P.underlying t = some (.slice e)) (hi : (P.info? e).map (fun i => i.size) = some sz)
    (hs : opd x s = .v (.slice (some ⟨b, 0, none⟩) n cap)) (hk : x.S[k]? = some B) (hb : B.b = b) (hy : opd x y = .v (.slice (some ⟨b, oy, none⟩) m c))
    (hnew : (B.cs.drop oy).take (m * sz) = new) (hlen : new.length = m * sz) (hone : ∀ d ∈ new, one d = true) (hroom : n + m ≤ cap) (hl : n * sz + m * sz ≤ B.cs.length) (hcs : setAll B.cs (n * sz) new = cs')
    (K : OD P C ops l ⟨x.n, (tt, .v (.slice (some ⟨b, 0, none⟩) (n + m) cap)) :: x.env, x.S.set k { B with cs := cs' }⟩ Q) : OD P C ops (o :: l) x Q :=
  OD.eff hw (eff_appendIn ho hd ht hi hs hk hb hy hnew hlen hone hroom hl hcs) fun y hy => hy ▸ K

/-! ### clear, behind what is known -/

theorem eff_clear {s : Operand} {t e sz n b k o' c : Nat} {z : Value} {B : Blk} (ho : o.op = .call { callee := .builtin .clear, args := #[s], argTypes := #[t] }) (hd : o.dst = none)
    (ht : P.underlying t = some (.slice e)) (hz : ∀ w, (zeroValue e).run P w = .ok z w) (hzs : z.cells.size = sz) (hz1 : z.cells.all (fun v => v.oneCell') = true)
    (hs : opd x s = .v (.slice (some ⟨b, o', none⟩) n c)) (hk : x.S[k]? = some B) (hb : B.b = b) (hcl : 0 < n → B.cs.length ≤ o' ∧ o' + n * sz ≤ B.size) :
    Eff P G x o [b] (fun y => y = x) := fun C a w K Q hG h hK => by
  subst hb
  have hun : ∀ {w' : World}, (Builtin.clear_ #[t] o.type #[a.eval s]).run P w = .ok (.tuple #[]) w' → (execOp a.eval o).run P w = .ok (.value (.tuple #[])) w' := fun hr => by
    unfold execOp
    simp [ho, resolve, invoke, builtin, hr]
  rcases Nat.eq_zero_or_pos n with rfl | hn
  · have hrun : (Builtin.clear_ #[t] o.type #[a.eval s]).run P w = .ok (.tuple #[]) w := by
      rw [h.flat hs]
      simp [Builtin.clear_, run_underlying ht]
    unfold Oper.wp
    rw [hun hrun, Oper.upon_value, hd]
    exact hK _ _ _ rfl h ⟨Nat.le_refl _, fun _ _ _ => rfl⟩ (Fr.refl _ _)
  · obtain ⟨hc1, hc2⟩ := hcl hn
    let vs := (Builtin.zeroCells z.cells n).toList
    have hvl : vs.length = n * sz := by simp [vs, size_zeroCells, hzs]
    have hv1 : ∀ v ∈ vs, v.oneCell' = true := fun v hv => by
      simp only [vs, Builtin.zeroCells, Array.toList_map, List.mem_map] at hv
      obtain ⟨j, hj, rfl⟩ := hv
      have hj' : j < n * z.cells.size := by simpa using hj
      have h0 : 0 < z.cells.size := by
        rcases Nat.eq_zero_or_pos z.cells.size with h0 | h0
        · rw [h0] at hj'; simp at hj'
        · exact h0
      have hlt := Nat.mod_lt j h0
      have := Array.all_eq_true.1 hz1 _ hlt
      rw [getElem!_pos z.cells _ hlt]; exact this
    obtain ⟨h0, cur, q1, q2, q3, q4⟩ := h.blk hk
    have hst := run_storeCells_cells (P := P) B.b o' vs 0 w (fun j hj => by
        have : (o' + 0 + j) < cur.size := by omega
        rw [cell_blk q1 (u := cur[o' + 0 + j]) (by simp [this])]; rfl) (fun j hj => by unfold World.frozen?; simp [q1]) hv1
    have hrun : (Builtin.clear_ #[t] o.type #[a.eval s]).run P w = .ok (.tuple #[]) (w.setCells B.b o' vs) := by
      rw [h.flat hs]
      obtain ⟨m, rfl⟩ : ∃ m, n = m + 1 := ⟨n - 1, by omega⟩
      simp only [Nat.add_zero] at hst
      simp [Builtin.clear_, run_underlying ht, hz, vs, hst]
    have hkl := (List.getElem?_eq_some_iff.1 hk).1
    have hkB := (List.getElem?_eq_some_iff.1 hk).2
    -- widened, stored, and forgotten again
    let cw := B.cs ++ List.replicate (B.size - B.cs.length) D.junk
    have hw := Wk.recs (n := x.n) (l := x.env) (cs' := cw) hk (by simp [cw]; omega) (fun i d hid => by
      rcases Nat.lt_or_ge i B.cs.length with hi | hi
      · left; rw [← hid]; simp only [cw]; rw [List.getElem?_append_left hi]
      · right
        simp only [cw] at hid
        rw [List.getElem?_append_right hi] at hid
        exact List.eq_of_mem_replicate (List.mem_of_getElem? hid)) C a w h
    have hk2 : (⟨x.n, x.env, x.S.set k { B with cs := cw }⟩ : St).S[k]? = some { B with cs := cw } := by simp [hkl]
    have hjr : RepL w (live C.X (⟨x.n, x.env, x.S.set k { B with cs := cw }⟩ : St).S) (List.replicate (n * sz) D.junk) vs := ⟨by simp [hvl], fun j h1 h2 => by rw [List.getElem_replicate]; exact .junk _⟩
    obtain ⟨s1, s2, s3⟩ := hw.store hk2 hjr (o' := o') (by simp [cw]; omega)
    have hset : setAll cw o' (List.replicate (n * sz) D.junk) = cw.take o' ++ List.replicate (n * sz) D.junk ++ cw.drop (o' + n * sz) := by
      rw [setAll_eq _ _ _ (by simp [cw]; omega), List.length_replicate]
    have hk3 : (x.S.set k { B with cs := setAll cw o' (List.replicate (n * sz) D.junk) })[k]? = some { B with cs := setAll cw o' (List.replicate (n * sz) D.junk) } := by simp [hkl]
    have h1 : Sim C ⟨x.n, x.env, x.S.set k { B with cs := setAll cw o' (List.replicate (n * sz) D.junk) }⟩ a (w.setCells B.b o' vs) := by simpa [List.set_set] using s1
    have h2 := Wk.recs (n := x.n) (l := x.env) (cs' := B.cs) hk3 (by simpa using q3) (fun i d hid => by
      left
      have hi := (List.getElem?_eq_some_iff.1 hid).1
      simp only [hset]
      rw [List.append_assoc, List.getElem?_append_left (by simp [cw]; omega), List.getElem?_take, if_pos (by omega)]
      simp only [cw]
      rw [List.getElem?_append_left hi, hid]) C a _ h1
    have hx : (⟨x.n, x.env, (x.S.set k { B with cs := setAll cw o' (List.replicate (n * sz) D.junk) }).set k { B with cs := B.cs }⟩ : St) = x := by
      rw [List.set_set]
      have : x.S.set k { B with cs := B.cs } = x.S := by
        apply List.ext_getElem (by simp)
        intro i q1 q2
        rw [List.getElem_set]
        split
        · rename_i e; subst e; exact hkB.symm
        · rfl
      rw [this]
    have hbk : ∀ cs1 : List D, bks (x.S.set k { B with cs := cs1 }) = bks x.S := fun cs1 => by
      unfold bks
      rw [List.map_set]
      apply List.ext_getElem (by simp)
      intro i q1 q2
      rw [List.getElem_set]
      split
      · rename_i e; subst e; simp [hkB]
      · rfl
    have h3 : Sim C x a (w.setCells B.b o' vs) := by
      have h2' := h2
      simp only at h2'
      rw [hx] at h2'
      exact h2'
    simp only [List.set_set, hbk] at s3
    unfold Oper.wp
    rw [hun hrun, Oper.upon_value, hd]
    exact hK _ _ _ rfl h3 s2 s3

theorem OD.clear {s : Operand} {t e sz n b k o' c : Nat} {z : Value} {B : Blk} (hw : Wants ops x o true) (ho : o.op = .call { callee := .builtin .clear, args := #[s], argTypes := #[t] }) (hd : o.dst = none)
    (ht : P.underlying t = some (.slice e)) (hz : ∀ w, (zeroValue e).run P w = .ok z w) (hzs : z.cells.size = sz) (hz1 : z.cells.all (fun v => v.oneCell') = true)
    (hs : opd x s = .v (.slice (some ⟨b, o', none⟩) n c)) (hk : x.S[k]? = some B) (hb : B.b = b) (hcl : 0 < n → B.cs.length ≤ o' ∧ o' + n * sz ≤ B.size) (K : OD P C ops l x Q) : OD P C ops (o :: l) x Q :=
  OD.eff hw (eff_clear ho hd ht hz hzs hz1 hs hk hb hcl) fun y hy => hy ▸ K

/-! ### A call that looks at rows of one's own and keeps other blocks as they are -/

def LooksR (x : St) (R : List Blk) : List Operand → List D → Prop
  | [], [] => True
  | o :: r, d :: r' => (∃ d0, opd x o = d0 ∧ View R d0 d) ∧ LooksR x R r r'
  | _, _ => False

theorem LooksR.rep {C : Ctx} {a : Act} {w : World} (h : Sim C x a w) {X Y : Nat → Prop} {R : List Blk} (hY : ∀ b, Y b → X b) (hX : ∀ b, X b → b ∉ bks R) (ho : Own w (live X R) R) (hl : live C.X x.S = live X R) : ∀ {os : List Operand} {ds : List D}, LooksR x R os ds → RepL w Y ds (os.map a.eval)
  | [], [], _ => ⟨rfl, fun i h => by simp at h⟩
  | o :: r, d :: r', ⟨⟨d0, h1, h2⟩, h3⟩ => RepL.cons (h2 X Y w _ hY hX ho (hl ▸ h1 ▸ h.eval o)) (LooksR.rep h hY hX ho hl h3)
  | [], _ :: _, h => h.elim
  | _ :: _, [], h => h.elim

/-- Blocks of plain cells. -/
def flatS (S : List Blk) : Bool := S.all fun B => B.cs.all fun d => match d with | .v _ => true | _ => false

theorem eff_lookS {f t : Nat} {fo : Operand} {as : Array Operand} {ts : Array TypeId} {args : List D} {r : D} {Sf R : List Blk} (ho : o.op = .call { callee := .value fo, args := as, argTypes := ts }) (hd : o.dst = some t)
    (hf : fo = .func f) (hcall : ∀ args w, (callFunc f args).run P w = .ok (.enter f args) w) (hc : VC P G f args Sf (fun r' S' => r' = r ∧ S' = Sf)) (hr : flatD r = true) (hfl : flatS Sf = true) (hp : x.S.Perm (Sf ++ R)) (ha : LooksR x R as.toList args) :
    Eff P G x o (bks Sf) (fun y => y = x.put t r) := fun C a w K Q hG h hK => by
  subst hf
  have hrun : (execOp a.eval o).run P w = .ok (.enter f (as.toList.map a.eval).toArray) w := by
    unfold execOp
    have e : as.map a.eval = (as.toList.map a.eval).toArray := by
      rw [← Array.toList_map, Array.toArray_toList]
    simp only [ho, resolve, Act.eval, Deferred.ofValue, Sem.run_bind, Sem.run_pure, Result.andThen_ok, invoke, e]
    simp [hcall]
  have hb : (bks x.S).Perm (bks Sf ++ bks R) := by have := hp.map Blk.b; simpa [bks] using this
  have hnd : (bks Sf ++ bks R).Nodup := hb.nodup_iff.1 h.own.apart
  obtain ⟨n1, n2, n3⟩ := List.nodup_append.1 hnd
  have hL : live C.X x.S = live (fun b => C.X b ∨ b ∈ bks Sf) R := live_perm (hp.trans List.perm_append_comm) 
  have hSfx : ∀ b, b ∈ bks Sf → b ∈ bks x.S := fun b hm => hb.symm.subset (List.mem_append_left _ hm)
  have hpre : Pre G (fun _ => False) w Sf args (as.toList.map a.eval) := by
    refine ⟨fun b hx => hx.elim, fun g hg => ?_, ⟨fun B hB => ?_, n1⟩, ?_⟩
    · rw [← hG] at hg
      obtain ⟨⟨q1, q2, q3⟩, q4⟩ := h.tab g hg
      exact ⟨⟨Nat.lt_of_lt_of_le q1 h.fr.size, fun hm => (h.fr.block g.1 q1 q2).2 (hSfx _ hm), id⟩, fun i v hi => h.tabAt hg hi⟩
    · obtain ⟨r0, cur, r1, r2, r3, r4⟩ := h.own.at_ B (hp.symm.subset (List.mem_append_left _ hB))
      refine ⟨r0, cur, r1, r2, r3, fun i hi => ?_⟩
      obtain ⟨u, hu, hq⟩ := r4 i hi
      refine ⟨u, hu, hq.mono fun b _ hn => ⟨rfl, fun hl => hn ?_⟩⟩
      rcases hl with hl | hl
      · exact hl.elim
      · exact .inr (hSfx _ hl)
    · refine LooksR.rep h (X := fun b => C.X b ∨ b ∈ bks Sf) (R := R) (fun b hy => ?_) (fun b hx hm => ?_) ⟨fun B hB => ?_, n2⟩ hL ha
      · rcases hy with hy | hy
        · exact hy.elim
        · exact .inr hy
      · rcases hx with hx | hx
        · exact h.exS b hx (hb.symm.subset (List.mem_append_right _ hm))
        · exact n3 b hx b hm rfl
      · rw [← hL]; exact h.own.at_ B (hp.symm.subset (List.mem_append_right _ hB))
  unfold Oper.wp
  rw [hrun, Oper.upon_enter, hd]
  refine (hc _ w _ hpre).mono fun e w' ⟨v, r', S', h1, ⟨h2, h2'⟩, h3, h4, h5⟩ => ?_
  subst h1 h2 h2'
  have hbb : ∀ b, b < w.heap.size → b ∉ bks S' → w'.heap[b]? = w.heap[b]? := fun b hb hn => (h5.block b hb hn).1
  have base : Sim C x a w' := by
    refine ⟨h.defers, h.size, fun t ht => (h.env t ht).mono fun b hb' hn => ⟨hbb b hb' (fun hm => hn (.inr (hSfx _ hm))), hn⟩, ⟨fun B hB => ?_, h.own.apart⟩, ?_, h.ex, h.tab⟩
    · by_cases hBS : B ∈ S'
      · obtain ⟨r0, cur, r1, r2, r3, r4⟩ := h3.at_ B hBS
        refine ⟨r0, cur, r1, r2, r3, fun i hi => ?_⟩
        obtain ⟨u, hu, hq⟩ := r4 i hi
        refine ⟨u, hu, ?_⟩
        have hv := List.all_eq_true.1 (List.all_eq_true.1 hfl B hBS) _ (List.getElem_mem hi)
        revert hq hv
        generalize B.cs[i] = d
        intro hq hv
        cases d <;> first | (rw [hq.v_eq]; exact .v _) | cases hv
      · have hBR : B ∈ R := by
          rcases List.mem_append.1 (hp.subset hB) with hm | hm
          · exact absurd hm hBS
          · exact hm
        obtain ⟨r0, cur, r1, r2, r3, r4⟩ := h.own.at_ B hB
        have hbn : B.b ∉ bks S' := fun hm => n3 B.b hm B.b (List.mem_map.2 ⟨B, hBR, rfl⟩) rfl
        refine ⟨lt_of_same r0 (hbb _ r0 hbn), cur, (hbb _ r0 hbn).trans r1, r2, r3, fun i hi => ?_⟩
        obtain ⟨u, hu, hq⟩ := r4 i hi
        exact ⟨u, hu, hq.mono fun b hb' hn => ⟨hbb b hb' (fun hm => hn (.inr (hSfx _ hm))), hn⟩⟩
    · exact ⟨h5.os.trans h.fr.os, h5.tape.trans h.fr.tape, h5.output.trans h.fr.output, Nat.le_trans h.fr.size h5.size, fun b hb' hn =>
        have hx := (h.fr.block b hb' hn).2
        ⟨(hbb b (Nat.lt_of_lt_of_le hb' h.fr.size) (fun hm => hx (hSfx _ hm))).trans (h.fr.block b hb' hn).1, hx⟩⟩
  exact hK _ _ _ rfl (base.put (h4.flat hr)) ⟨h5.size, fun b hb' hn => hbb b hb' hn⟩ ⟨h5.os, h5.tape, h5.output, h5.size, fun b hb' hn => ⟨hbb b hb' (fun hm => hn (hSfx _ hm)), hn⟩⟩

theorem OD.lookS {f t : Nat} {fo : Operand} {as : Array Operand} {ts : Array TypeId} {args : List D} {r : D} {Sf R : List Blk} (hw : Wants ops x o true) (ho : o.op = .call { callee := .value fo, args := as, argTypes := ts }) (hd : o.dst = some t)
    (hf : fo = .func f) (hcall : ∀ args w, (callFunc f args).run P w = .ok (.enter f args) w) (hc : VC P C.G f args Sf (fun r' S' => r' = r ∧ S' = Sf)) (hr : flatD r = true) (hfl : flatS Sf = true) (hp : x.S.Perm (Sf ++ R)) (ha : LooksR x R as.toList args)
    (K : OD P C ops l (x.put t r) Q) : OD P C ops (o :: l) x Q := OD.eff hw (eff_lookS ho hd hf hcall hc hr hfl hp ha) fun y hy => hy ▸ K

theorem ld_rowB {S : List Blk} {α : Type} {g : α → List D} {t k b sz i e n : Nat} {ls : List α} (hg : ∀ a, (g a).length = sz) (hk : S[k]? = some (⟨b, e, n, ls.flatMap g⟩ : Blk)) (ha : ∀ w, (isAgg t).run P w = .ok true w) (hn : ∀ w, (sizeOf t).run P w = .ok sz w) (hi : i < ls.length) : R1 P G S (Op.load t) (.v (.pointer (some ⟨b, 0 + i * sz, none⟩))) (.blk k) (.agg (g ls[i])) :=
  ld_rows hg hk rfl rfl ha hn hi

/-! ### The same blocks in another order: by counting -/

theorem perm_cnt {l r : List Blk} (h : ∀ f : Blk → Nat, (l.map f).sum = (r.map f).sum) : l.Perm r := by
  classical
  rw [List.perm_iff_count]
  intro a
  have key : ∀ l : List Blk, (l.map fun b => if b = a then 1 else 0).sum = l.count a := by
    intro l
    induction l with
    | nil => rfl
    | cons b l ih =>
      rw [List.map_cons, List.sum_cons, ih, List.count_cons]
      by_cases e : b = a <;> simp [e, Nat.add_comm]
  have := h (fun b => if b = a then 1 else 0)
  rw [key, key] at this
  exact this
theorem perm_sum {l r : List Blk} (h : l.Perm r) (f : Blk → Nat) : (l.map f).sum = (r.map f).sum := by
  induction h with
  | nil => rfl
  | cons x _ ih => simp [ih]
  | swap x y l => simp only [List.map_cons, List.sum_cons]; omega
  | trans _ _ h1 h2 => exact h1.trans h2

theorem NP.norm {Φ : St → Prop} : NP (fun e y => e = Exit.normal ∧ Φ y) := fun c y hq => by cases hq.1

end Go.Proofs.YtcogdagfcndbfaaDoor.V
