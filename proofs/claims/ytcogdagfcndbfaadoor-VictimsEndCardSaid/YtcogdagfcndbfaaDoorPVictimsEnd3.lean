/-
  What the proof of VictimsEnd leans on, part 3 of 4: walks of the program's functions at the level of values, and plain facts of what they compute.
-/
import Derived.Test.YtcogdagfcndbfaaDoorPVictimsEnd2
namespace Go.Proofs.YtcogdagfcndbfaaDoor.V
open Go.RowKit
set_option linter.unusedVariables false
set_option linter.unusedSimpArgs false

variable {P : Program} {C : Ctx} {G : List (Nat × List Value)} {Q : Exit → St → Prop} {x : St} {ops : Array Oper} {l : List Oper} {o : Oper} {S1 T : List Nat} {fuel i : Nat} {ld : Array Bool}

theorem setAll_eq : ∀ (ds cs : List D) (off : Nat), off + ds.length ≤ cs.length → setAll cs off ds = cs.take off ++ ds ++ cs.drop (off + ds.length)
  | [], cs, off, h => by simp [setAll]
  | d :: ds, cs, off, h => by
    simp only [List.length_cons] at h
    have e : cs.set off d = (cs.take off ++ [d]) ++ cs.drop (off + 1) := by rw [List.set_eq_take_append_cons_drop, if_pos (by omega)]; simp
    have hl : (cs.take off ++ [d]).length = off + 1 := by simp; omega
    rw [setAll, setAll_eq ds _ (off + 1) (by simp; omega), e, List.take_left' hl, ← List.drop_drop, List.drop_left' hl, List.drop_drop]
    simp only [List.append_assoc, List.cons_append, List.nil_append, List.length_cons]
    congr 4
    omega

theorem fm_set {α : Type} {g : α → List D} {sz : Nat} (hg : ∀ a, (g a).length = sz) (ls : List α) {i : Nat} (a : α) (hi : i < ls.length) : setAll (ls.flatMap g) (i * sz) (g a) = (ls.set i a).flatMap g := by
  have h1 : (i + 1) * sz ≤ ls.length * sz := Nat.mul_le_mul_right _ hi
  rw [Nat.succ_mul] at h1
  rw [setAll_eq _ _ _ (by rw [fm_len hg, hg]; exact h1), hg, List.set_eq_take_append_cons_drop, if_pos hi, fm_take hg, ← Nat.succ_mul, fm_drop hg]
  simp [List.flatMap_append]

/-- What is known of a block's cells may be less, or nothing. -/
theorem Wk.recs {n : Nat} {l : List (Nat × D)} {S : List Blk} {k : Nat} {B : Blk} {cs' : List D} (hk : S[k]? = some B) (hl : cs'.length ≤ B.size) (hc : ∀ (i : Nat) (d : D), cs'[i]? = some d → B.cs[i]? = some d ∨ d = D.junk) : Wk ⟨n, l, S⟩ ⟨n, l, S.set k { B with cs := cs' }⟩ := fun C a w h => by
  have hkl := (List.getElem?_eq_some_iff.1 hk).1
  have hkB := (List.getElem?_eq_some_iff.1 hk).2
  have hbks : bks (S.set k { B with cs := cs' }) = bks S := by
    unfold bks
    rw [List.map_set]
    apply List.ext_getElem (by simp)
    intro i q1 q2
    rw [List.getElem_set]
    split
    · rename_i e; subst e; simp [hkB]
    · rfl
  have hlive : live C.X (S.set k { B with cs := cs' }) = live C.X S := by funext b; simp only [live, hbks]
  refine ⟨h.defers, h.size, fun t ht => ?_, ⟨fun B' hB' => ?_, ?_⟩, ?_, h.ex, h.tab⟩
  · simp only [hlive]; exact h.env t ht
  · simp only [hlive]
    obtain ⟨j, hj, hje⟩ := List.mem_iff_getElem.1 hB'
    rw [List.length_set] at hj
    rw [List.getElem_set] at hje
    by_cases e : k = j
    · rw [if_pos e] at hje
      subst hje
      obtain ⟨r0, cur, r1, r2, r3, r4⟩ := h.own.at_ B (List.mem_of_getElem? hk)
      refine ⟨r0, cur, r1, r2, hl, fun i hi => ?_⟩
      simp only at hi hl
      have hi2 : i < cur.size := by omega
      rcases hc i _ (List.getElem?_eq_getElem hi) with hd | hd
      · obtain ⟨hd1, hd2⟩ := List.getElem?_eq_some_iff.1 hd
        obtain ⟨u, hu, hq⟩ := r4 i hd1
        rw [hd2] at hq
        exact ⟨u, hu, hq⟩
      · exact ⟨cur[i], by simp [hi2], by simp only [hd]; exact .junk _⟩
    · rw [if_neg e] at hje
      subst hje
      exact h.own.at_ _ (List.getElem_mem hj)
  · simp only [hbks]; exact h.own.apart
  · simp only [hbks]; exact h.fr

theorem OD.recs {k : Nat} {B : Blk} {cs' : List D} (hk : x.S[k]? = some B) (hl : cs'.length ≤ B.size) (hc : ∀ (i : Nat) (d : D), cs'[i]? = some d → B.cs[i]? = some d ∨ d = D.junk) (K : OD P C ops l ⟨x.n, x.env, x.S.set k { B with cs := cs' }⟩ Q) : OD P C ops l x Q := OD.wk (Wk.recs hk hl hc) K

/-! ### A slice of a row of one's own -/

/-- Where a slice expression's row begins. -/
def offs (cap l sz o' : Nat) : Nat := if cap = l then o' else o' + l * sz

theorem still_rsliceG {t e : TypeId} {b o' len cap sz l h' : Nat} {y : Operand} {lo hi : Option Operand} (ho : o.op = .slice t y lo hi none) (hy : opd x y = .v (.slice (some ⟨b, o', none⟩) len cap)) (hlo : bound x lo l 0) (hhi : bound x hi h' len)
    (hu : ∀ w, (underlying t).run P w = .ok (.slice e) w) (hs : ∀ w, (sizeOf e).run P w = .ok sz w) (h1 : l ≤ h') (h2 : h' ≤ cap) : Still P G x o .none (.v (.slice (some ⟨b, offs cap l sz o', none⟩) (h' - l) (cap - l))) := fun C a w _ h =>
  ⟨_, .v _, fun w' _ => by
    have b1 := bound_eval h hlo
    have b2 := bound_eval h hhi
    have b3 := fun w => run_sbounds (P := P) (il := true) (w := w) b1 b2 h1 h2
    unfold execOp offs
    simp only [ho, h.flat hy, Instr.sliceAt, Instr.slice, hu, Sem.run_bind, Result.andThen_ok, Option.map_none, b3, hs, Sem.run_pure]
    by_cases hc : cap = l
    · rw [if_pos hc, if_pos hc]
    · rw [if_neg hc, if_neg hc]; simp only [Option.map_some, Addr.add_mid]⟩

theorem sl_rowG {t e : TypeId} {sz l h' b o' len cap : Nat} {lo hi : Option Operand} (hlo : lo = none → l = 0) (hhi : hi = none → h' = len)
    (hu : ∀ w, (underlying t).run P w = .ok (.slice e) w) (hs : ∀ w, (sizeOf e).run P w = .ok sz w) (h1 : l ≤ h') (h2 : h' ≤ cap) : Rs P G t lo hi l h' (.v (.slice (some ⟨b, o', none⟩) len cap)) (.v (.slice (some ⟨b, offs cap l sz o', none⟩) (h' - l) (cap - l))) := fun x o y ho hy hl hh =>
  still_rsliceG ho hy (bound_of hl hlo) (bound_of hh hhi) hu hs h1 h2

theorem still_rslice3 {t e : TypeId} {b o' len cap sz l h' m : Nat} {k1 k2 k3 : IntKind} {y lo hi mx : Operand} (ho : o.op = .slice t y (some lo) (some hi) (some mx)) (hy : opd x y = .v (.slice (some ⟨b, o', none⟩) len cap)) (hlo : opd x lo = .v (.int k1 l)) (hhi : opd x hi = .v (.int k2 h')) (hmx : opd x mx = .v (.int k3 m))
    (hu : ∀ w, (underlying t).run P w = .ok (.slice e) w) (hs : ∀ w, (sizeOf e).run P w = .ok sz w) (h1 : l ≤ h') (h2 : h' ≤ m) (h3 : m ≤ cap) : Still P G x o .none .junk := fun C a w _ h =>
  ⟨.slice (some ⟨b, if m = l then o' else o' + l * sz, none⟩) (h' - l) (m - l), .junk _, fun w' _ => by
    have b3 : ∀ w, (Instr.sliceBounds true len cap (some (.int k1 l)) (some (.int k2 h')) (some (.int k3 m))).run P w = .ok (l, h', m) w := fun w => by
      unfold Instr.sliceBounds
      simp [run_sbound, h1, h2, h3]
    unfold execOp
    simp only [ho, h.flat hy, h.flat hlo, h.flat hhi, h.flat hmx, Instr.sliceAt, Instr.slice, hu, Sem.run_bind, Result.andThen_ok, Option.map_some, b3, hs, Sem.run_pure]
    by_cases hc : m = l
    · rw [if_pos hc, if_pos hc]
    · rw [if_neg hc, if_neg hc]; simp only [Option.map_some, Addr.add_mid]⟩

/-! ### append within a row -/

theorem eff_appendIn {s y : Operand} {t e tt sz n m b cap k oy c : Nat} {B : Blk} {new cs' : List D} (ho : o.op = .call { callee := .builtin .append, args := #[s, y], argTypes := #[t, t] }) (hd : o.dst = some tt)
    (ht : P.underlying t = some (.slice e)) (hi : (P.info? e).map (fun i => i.size) = some sz)
    (hs : opd x s = .v (.slice (some ⟨b, 0, none⟩) n cap)) (hk : x.S[k]? = some B) (hb : B.b = b) (hy : opd x y = .v (.slice (some ⟨b, oy, none⟩) m c))
    (hnew : (B.cs.drop oy).take (m * sz) = new) (hlen : new.length = m * sz) (hone : ∀ d ∈ new, one d = true) (hroom : n + m ≤ cap) (hl : n * sz + m * sz ≤ B.cs.length) (hcs : setAll B.cs (n * sz) new = cs') (hne : isMap B.e = false := by rfl) :
    Eff P G x o [b] (fun y => y = ⟨x.n, (tt, .v (.slice (some ⟨b, 0, none⟩) (n + m) cap)) :: x.env, x.S.set k { B with cs := cs' }⟩) := fun C a w K Q hG h hK => by
  subst hcs hb
  obtain ⟨i, hi1, rfl⟩ : ∃ i, P.info? e = some i ∧ i.size = sz := by
    cases h : P.info? e with
    | none => simp [h] at hi
    | some i => simp [h] at hi; exact ⟨i, rfl, hi⟩
  obtain ⟨h0, cur, q1, q2, q3, q4⟩ := h.blk hk
  rw [ob_cells hne] at q1
  have hin : ∀ j, j < m * i.size → ∃ hj : oy + j < B.cs.length, ∃ hn : j < new.length, new[j] = B.cs[oy + j] := fun j hj => by
    have h1 : j < new.length := by omega
    have h2 : oy + j < B.cs.length := by
      have := congrArg List.length hnew
      rw [List.length_take, List.length_drop, hlen] at this
      omega
    refine ⟨h2, h1, ?_⟩
    have e2 : new[j]? = some B.cs[oy + j] := by rw [← hnew, List.getElem?_take, if_pos hj, List.getElem?_drop, List.getElem?_eq_getElem h2]
    rw [List.getElem?_eq_getElem h1] at e2
    exact Option.some.inj e2
  let vs : List Value := (List.range (m * i.size)).map fun j => cur.getD (oy + j) undef
  have hvl : vs.length = m * i.size := by simp [vs]
  have hv : ∀ j (hj : j < m * i.size), ∃ u, cur[oy + j]? = some u ∧ vs[j]? = some u ∧ Rep w (live C.X x.S) (new[j]'(by omega)) u := fun j hj => by
    obtain ⟨h1, h2, h3⟩ := hin j hj
    obtain ⟨u, hu, hq⟩ := q4 (oy + j) h1
    refine ⟨u, hu, ?_, h3 ▸ hq⟩
    simp [vs, hj, hu]
  have hr : RepL w (live C.X x.S) new vs := ⟨by rw [hvl, hlen], fun j h1 h2 => by
    obtain ⟨u, _, hu, hq⟩ := hv j (by omega)
    rw [List.getElem?_eq_getElem h2] at hu
    rw [Option.some.inj hu]; exact hq⟩
  obtain ⟨s1, s2, s3⟩ := h.store (hne := hne) hk hr (o' := n * i.size) (by rw [hlen]; exact hl)
  have hrun := run_append_room_cells (P := P) w t o.type e i ht hi1 B.b 0 n cap ⟨B.b, oy, none⟩ m c vs hvl (fun j u hu => by
      rw [Addr.add_mid]
      have hj : j < m * i.size := by rw [← hvl]; exact (List.getElem?_eq_some_iff.1 hu).1
      obtain ⟨u', hu1, hu2, _⟩ := hv j hj
      rw [hu2] at hu
      rw [← hu]; exact cell_blk q1 hu1) (fun u hu => by
      obtain ⟨j, hj, rfl⟩ := List.mem_iff_getElem.1 hu
      have hj' : j < new.length := by omega
      exact (hr.2 j hj' hj).one_cell (hone _ (List.getElem_mem hj'))) hroom (fun j hj => by
      have : (0 + n * i.size + j) < cur.size := by rw [hvl] at hj; omega
      rw [cell_blk q1 (u := cur[0 + n * i.size + j]) (by simp [this])]; rfl) (fun j hj => by unfold World.frozen?; simp [q1])
  rw [Nat.zero_add] at hrun
  have hrun2 := run_append (o := o) (a := a) ho (h.flat hs) (h.flat hy) hrun
  unfold Oper.wp
  rw [hrun2, Oper.upon_value, hd]
  exact hK _ _ _ rfl (s1.put (.v _)) s2 s3

theorem AStep.appendIn {s y : Operand} {t e tt sz n m b cap k oy c : Nat} {B : Blk} {new cs' : List D} (hi' : ops[i]? = some o) (hw : Wants ops x o true) (ho : o.op = .call { callee := .builtin .append, args := #[s, y], argTypes := #[t, t] }) (hd : o.dst = some tt)
    (ht : P.underlying t = some (.slice e)) (hi : (P.info? e).map (fun i => i.size) = some sz)
    (hs : opd x s = .v (.slice (some ⟨b, 0, none⟩) n cap)) (hk : x.S[k]? = some B) (hb : B.b = b) (hy : opd x y = .v (.slice (some ⟨b, oy, none⟩) m c))
    (hnew : (B.cs.drop oy).take (m * sz) = new) (hlen : new.length = m * sz) (hone : ∀ d ∈ new, one d = true) (hroom : n + m ≤ cap) (hl : n * sz + m * sz ≤ B.cs.length) (hcs : setAll B.cs (n * sz) new = cs') (hT : ∀ b ∈ T, b ∈ bks (x.S.eraseIdx k))
    (K : AD P C ops S1 T fuel (ld.setIfInBounds i true) ⟨x.n, (tt, .v (.slice (some ⟨b, 0, none⟩) (n + m) cap)) :: x.env, x.S.set k { B with cs := cs' }⟩ Q) (hne : isMap B.e = false := by rfl) : AStep P C ops S1 T fuel ld x Q i :=
  AStep.eff hi' hw (eff_appendIn (hne := hne) ho hd ht hi hs hk hb hy hnew hlen hone hroom hl hcs) (fun C a w hs b' hb' => hb ▸ away hs hk hT b' hb') (fun b' hb' => by
    have : b' = b := by simpa using hb'
    subst this; rw [← hb]; exact mem_bks hk) fun y hy => hy ▸ K
theorem OD.appendIn {s y : Operand} {t e tt sz n m b cap k oy c : Nat} {B : Blk} {new cs' : List D} (hw : Wants ops x o true) (ho : o.op = .call { callee := .builtin .append, args := #[s, y], argTypes := #[t, t] }) (hd : o.dst = some tt)
    (ht : P.underlying t = some (.slice e)) (hi : (P.info? e).map (fun i => i.size) = some sz)
    (hs : opd x s = .v (.slice (some ⟨b, 0, none⟩) n cap)) (hk : x.S[k]? = some B) (hb : B.b = b) (hy : opd x y = .v (.slice (some ⟨b, oy, none⟩) m c))
    (hnew : (B.cs.drop oy).take (m * sz) = new) (hlen : new.length = m * sz) (hone : ∀ d ∈ new, one d = true) (hroom : n + m ≤ cap) (hl : n * sz + m * sz ≤ B.cs.length) (hcs : setAll B.cs (n * sz) new = cs')
    (K : OD P C ops l ⟨x.n, (tt, .v (.slice (some ⟨b, 0, none⟩) (n + m) cap)) :: x.env, x.S.set k { B with cs := cs' }⟩ Q) (hne : isMap B.e = false := by rfl) : OD P C ops (o :: l) x Q :=
  OD.eff hw (eff_appendIn (hne := hne) ho hd ht hi hs hk hb hy hnew hlen hone hroom hl hcs) fun y hy => hy ▸ K

/-! ### clear, behind what is known -/

theorem eff_clear {s : Operand} {t e sz n b k o' c : Nat} {z : Value} {B : Blk} (ho : o.op = .call { callee := .builtin .clear, args := #[s], argTypes := #[t] }) (hd : o.dst = none)
    (ht : P.underlying t = some (.slice e)) (hz : ∀ w, (zeroValue e).run P w = .ok z w) (hzs : z.cells.size = sz) (hz1 : z.cells.all (fun v => v.oneCell') = true)
    (hs : opd x s = .v (.slice (some ⟨b, o', none⟩) n c)) (hk : x.S[k]? = some B) (hb : B.b = b) (hcl : 0 < n → B.cs.length ≤ o' ∧ o' + n * sz ≤ B.size) (hne : isMap B.e = false := by rfl) :
    Eff P G x o [b] (fun y => y = x) := fun C a w K Q hG h hK => by
  subst hb
  have hun : ∀ {w' : World}, (Builtin.clear_ #[t] o.type #[a.eval s]).run P w = .ok (.tuple #[]) w' → (execOp a.eval o).run P w = .ok (.value (.tuple #[])) w' := fun hr => by
    unfold execOp
    simp [ho, resolve, invoke, builtin, hr]
  rcases Nat.eq_zero_or_pos n with rfl | hn
  · have hrun : (Builtin.clear_ #[t] o.type #[a.eval s]).run P w = .ok (.tuple #[]) w := by
      rw [h.flat hs]
      simp [Builtin.clear_, run_underlying ht]
    unfold Oper.wp
    rw [hun hrun, Oper.upon_value, hd]
    exact hK _ _ _ rfl h ⟨Nat.le_refl _, fun _ _ _ => rfl⟩ (Fr.refl _ _)
  · obtain ⟨hc1, hc2⟩ := hcl hn
    let vs := (Builtin.zeroCells z.cells n).toList
    have hvl : vs.length = n * sz := by simp [vs, size_zeroCells, hzs]
    have hv1 : ∀ v ∈ vs, v.oneCell' = true := fun v hv => by
      simp only [vs, Builtin.zeroCells, Array.toList_map, List.mem_map] at hv
      obtain ⟨j, hj, rfl⟩ := hv
      have hj' : j < n * z.cells.size := by simpa using hj
      have h0 : 0 < z.cells.size := by
        rcases Nat.eq_zero_or_pos z.cells.size with h0 | h0
        · rw [h0] at hj'; simp at hj'
        · exact h0
      have hlt := Nat.mod_lt j h0
      have := Array.all_eq_true.1 hz1 _ hlt
      rw [getElem!_pos z.cells _ hlt]; exact this
    obtain ⟨h0, cur, q1, q2, q3, q4⟩ := h.blk hk
    rw [ob_cells hne] at q1
    have hst := run_storeCells_cells (P := P) B.b o' vs 0 w (fun j hj => by
        have : (o' + 0 + j) < cur.size := by omega
        rw [cell_blk q1 (u := cur[o' + 0 + j]) (by simp [this])]; rfl) (fun j hj => by unfold World.frozen?; simp [q1]) hv1
    have hrun : (Builtin.clear_ #[t] o.type #[a.eval s]).run P w = .ok (.tuple #[]) (w.setCells B.b o' vs) := by
      rw [h.flat hs]
      obtain ⟨m, rfl⟩ : ∃ m, n = m + 1 := ⟨n - 1, by omega⟩
      simp only [Nat.add_zero] at hst
      simp [Builtin.clear_, run_underlying ht, hz, vs, hst]
    have hkl := (List.getElem?_eq_some_iff.1 hk).1
    have hkB := (List.getElem?_eq_some_iff.1 hk).2
    -- widened, stored, and forgotten again
    let cw := B.cs ++ List.replicate (B.size - B.cs.length) D.junk
    have hw := Wk.recs (n := x.n) (l := x.env) (cs' := cw) hk (by simp [cw]; omega) (fun i d hid => by
      rcases Nat.lt_or_ge i B.cs.length with hi | hi
      · left; rw [← hid]; simp only [cw]; rw [List.getElem?_append_left hi]
      · right
        simp only [cw] at hid
        rw [List.getElem?_append_right hi] at hid
        exact List.eq_of_mem_replicate (List.mem_of_getElem? hid)) C a w h
    have hk2 : (⟨x.n, x.env, x.S.set k { B with cs := cw }⟩ : St).S[k]? = some { B with cs := cw } := by simp [hkl]
    have hjr : RepL w (live C.X (⟨x.n, x.env, x.S.set k { B with cs := cw }⟩ : St).S) (List.replicate (n * sz) D.junk) vs := ⟨by simp [hvl], fun j h1 h2 => by rw [List.getElem_replicate]; exact .junk _⟩
    obtain ⟨s1, s2, s3⟩ := hw.store (hne := hne) hk2 hjr (o' := o') (by simp [cw]; omega)
    have hset : setAll cw o' (List.replicate (n * sz) D.junk) = cw.take o' ++ List.replicate (n * sz) D.junk ++ cw.drop (o' + n * sz) := by
      rw [setAll_eq _ _ _ (by simp [cw]; omega), List.length_replicate]
    have hk3 : (x.S.set k { B with cs := setAll cw o' (List.replicate (n * sz) D.junk) })[k]? = some { B with cs := setAll cw o' (List.replicate (n * sz) D.junk) } := by simp [hkl]
    have h1 : Sim C ⟨x.n, x.env, x.S.set k { B with cs := setAll cw o' (List.replicate (n * sz) D.junk) }⟩ a (w.setCells B.b o' vs) := by simpa [List.set_set] using s1
    have h2 := Wk.recs (n := x.n) (l := x.env) (cs' := B.cs) hk3 (by simpa using q3) (fun i d hid => by
      left
      have hi := (List.getElem?_eq_some_iff.1 hid).1
      simp only [hset]
      rw [List.append_assoc, List.getElem?_append_left (by simp [cw]; omega), List.getElem?_take, if_pos (by omega)]
      simp only [cw]
      rw [List.getElem?_append_left hi, hid]) C a _ h1
    have hx : (⟨x.n, x.env, (x.S.set k { B with cs := setAll cw o' (List.replicate (n * sz) D.junk) }).set k { B with cs := B.cs }⟩ : St) = x := by
      rw [List.set_set]
      have : x.S.set k { B with cs := B.cs } = x.S := by
        apply List.ext_getElem (by simp)
        intro i q1 q2
        rw [List.getElem_set]
        split
        · rename_i e; subst e; exact hkB.symm
        · rfl
      rw [this]
    have hbk : ∀ cs1 : List D, bks (x.S.set k { B with cs := cs1 }) = bks x.S := fun cs1 => by
      unfold bks
      rw [List.map_set]
      apply List.ext_getElem (by simp)
      intro i q1 q2
      rw [List.getElem_set]
      split
      · rename_i e; subst e; simp [hkB]
      · rfl
    have h3 : Sim C x a (w.setCells B.b o' vs) := by
      have h2' := h2
      simp only at h2'
      rw [hx] at h2'
      exact h2'
    simp only [List.set_set, hbk] at s3
    unfold Oper.wp
    rw [hun hrun, Oper.upon_value, hd]
    exact hK _ _ _ rfl h3 s2 s3

theorem OD.clear {s : Operand} {t e sz n b k o' c : Nat} {z : Value} {B : Blk} (hw : Wants ops x o true) (ho : o.op = .call { callee := .builtin .clear, args := #[s], argTypes := #[t] }) (hd : o.dst = none)
    (ht : P.underlying t = some (.slice e)) (hz : ∀ w, (zeroValue e).run P w = .ok z w) (hzs : z.cells.size = sz) (hz1 : z.cells.all (fun v => v.oneCell') = true)
    (hs : opd x s = .v (.slice (some ⟨b, o', none⟩) n c)) (hk : x.S[k]? = some B) (hb : B.b = b) (hcl : 0 < n → B.cs.length ≤ o' ∧ o' + n * sz ≤ B.size) (K : OD P C ops l x Q) (hne : isMap B.e = false := by rfl) : OD P C ops (o :: l) x Q :=
  OD.eff hw (eff_clear (hne := hne) ho hd ht hz hzs hz1 hs hk hb hcl) fun y hy => hy ▸ K

/-! ### A call that looks at rows of one's own and keeps other blocks as they are -/

def LooksR (x : St) (R : List Blk) : List Operand → List D → Prop
  | [], [] => True
  | o :: r, d :: r' => (∃ d0, opd x o = d0 ∧ View R d0 d) ∧ LooksR x R r r'
  | _, _ => False

theorem LooksR.rep {C : Ctx} {a : Act} {w : World} (h : Sim C x a w) {X Y : Nat → Prop} {R : List Blk} (hY : ∀ b, Y b → X b) (hX : ∀ b, X b → b ∉ bks R) (ho : Own w (live X R) R) (hl : live C.X x.S = live X R) : ∀ {os : List Operand} {ds : List D}, LooksR x R os ds → RepL w Y ds (os.map a.eval)
  | [], [], _ => ⟨rfl, fun i h => by simp at h⟩
  | o :: r, d :: r', ⟨⟨d0, h1, h2⟩, h3⟩ => RepL.cons (h2 X Y w _ hY hX ho (hl ▸ h1 ▸ h.eval o)) (LooksR.rep h hY hX ho hl h3)
  | [], _ :: _, h => h.elim
  | _ :: _, [], h => h.elim

/-- Blocks of plain cells. -/
def flatS (S : List Blk) : Bool := S.all fun B => B.cs.all fun d => match d with | .v _ => true | _ => false

theorem eff_lookS {f t : Nat} {fo : Operand} {ars : Array Operand} {ts : Array TypeId} {args : List D} {r : D} {Sf R : List Blk} (ho : o.op = .call { callee := .value fo, args := ars, argTypes := ts }) (hd : o.dst = some t)
    (hf : fo = .func f) (hcall : ∀ args w, (callFunc f args).run P w = .ok (.enter f args) w) (hc : VC P G f args Sf (fun r' S' => r' = r ∧ S' = Sf)) (hr : flatD r = true) (hfl : flatS Sf = true) (hp : x.S.Perm (Sf ++ R)) (ha : LooksR x R ars.toList args) :
    Eff P G x o (bks Sf) (fun y => y = x.put t r) := fun C a w K Q hG h hK => by
  subst hf
  have hrun : (execOp a.eval o).run P w = .ok (.enter f (ars.toList.map a.eval).toArray) w := by
    unfold execOp
    have e : ars.map a.eval = (ars.toList.map a.eval).toArray := by
      rw [← Array.toList_map, Array.toArray_toList]
    simp only [ho, resolve, Act.eval, Deferred.ofValue, Sem.run_bind, Sem.run_pure, Result.andThen_ok, invoke, e]
    simp [hcall]
  have hb : (bks x.S).Perm (bks Sf ++ bks R) := by have := hp.map Blk.b; simpa [bks] using this
  have hnd : (bks Sf ++ bks R).Nodup := hb.nodup_iff.1 h.own.apart
  obtain ⟨n1, n2, n3⟩ := List.nodup_append.1 hnd
  have hL : live C.X x.S = live (fun b => C.X b ∨ b ∈ bks Sf) R := live_perm (hp.trans List.perm_append_comm) 
  have hSfx : ∀ b, b ∈ bks Sf → b ∈ bks x.S := fun b hm => hb.symm.subset (List.mem_append_left _ hm)
  have hpre : Pre G (fun _ => False) w Sf args (ars.toList.map a.eval) := by
    refine ⟨fun b hx => hx.elim, fun g hg => ?_, ⟨fun B hB => ?_, n1⟩, ?_⟩
    · rw [← hG] at hg
      obtain ⟨⟨q1, q2, q3⟩, q4⟩ := h.tab g hg
      exact ⟨⟨Nat.lt_of_lt_of_le q1 h.fr.size, fun hm => (h.fr.block g.1 q1 q2).2 (hSfx _ hm), id⟩, fun i v hi => h.tabAt hg hi⟩
    · obtain ⟨r0, cur, r1, r2, r3, r4⟩ := h.own.at_ B (hp.symm.subset (List.mem_append_left _ hB))
      refine ⟨r0, cur, r1, r2, r3, fun i hi => ?_⟩
      obtain ⟨u, hu, hq⟩ := r4 i hi
      refine ⟨u, hu, hq.mono fun b _ hn => ⟨rfl, fun hl => hn ?_⟩⟩
      rcases hl with hl | hl
      · exact hl.elim
      · exact .inr (hSfx _ hl)
    · refine LooksR.rep h (X := fun b => C.X b ∨ b ∈ bks Sf) (R := R) (fun b hy => ?_) (fun b hx hm => ?_) ⟨fun B hB => ?_, n2⟩ hL ha
      · rcases hy with hy | hy
        · exact hy.elim
        · exact .inr hy
      · rcases hx with hx | hx
        · exact h.exS b hx (hb.symm.subset (List.mem_append_right _ hm))
        · exact n3 b hx b hm rfl
      · rw [← hL]; exact h.own.at_ B (hp.symm.subset (List.mem_append_right _ hB))
  unfold Oper.wp
  rw [hrun, Oper.upon_enter, hd]
  refine (hc _ w _ hpre).mono fun e w' ⟨v, r', S', h1, ⟨h2, h2'⟩, h3, h4, h5⟩ => ?_
  subst h1 h2 h2'
  have hbb : ∀ b, b < w.heap.size → b ∉ bks S' → w'.heap[b]? = w.heap[b]? := fun b hb hn => (h5.block b hb hn).1
  have base : Sim C x a w' := by
    refine ⟨h.defers, h.size, fun t ht => (h.env t ht).mono fun b hb' hn => ⟨hbb b hb' (fun hm => hn (.inr (hSfx _ hm))), hn⟩, ⟨fun B hB => ?_, h.own.apart⟩, ?_, h.ex, h.tab⟩
    · by_cases hBS : B ∈ S'
      · obtain ⟨r0, cur, r1, r2, r3, r4⟩ := h3.at_ B hBS
        refine ⟨r0, cur, r1, r2, r3, fun i hi => ?_⟩
        obtain ⟨u, hu, hq⟩ := r4 i hi
        refine ⟨u, hu, ?_⟩
        have hv := List.all_eq_true.1 (List.all_eq_true.1 hfl B hBS) _ (List.getElem_mem hi)
        revert hq hv
        generalize B.cs[i] = d
        intro hq hv
        cases d <;> first | (rw [hq.v_eq]; exact .v _) | cases hv
      · have hBR : B ∈ R := by
          rcases List.mem_append.1 (hp.subset hB) with hm | hm
          · exact absurd hm hBS
          · exact hm
        obtain ⟨r0, cur, r1, r2, r3, r4⟩ := h.own.at_ B hB
        have hbn : B.b ∉ bks S' := fun hm => n3 B.b hm B.b (List.mem_map.2 ⟨B, hBR, rfl⟩) rfl
        refine ⟨lt_of_same r0 (hbb _ r0 hbn), cur, (hbb _ r0 hbn).trans r1, r2, r3, fun i hi => ?_⟩
        obtain ⟨u, hu, hq⟩ := r4 i hi
        exact ⟨u, hu, hq.mono fun b hb' hn => ⟨hbb b hb' (fun hm => hn (.inr (hSfx _ hm))), hn⟩⟩
    · exact ⟨h5.os.trans h.fr.os, h5.tape.trans h.fr.tape, h5.output.trans h.fr.output, Nat.le_trans h.fr.size h5.size, fun b hb' hn =>
        have hx := (h.fr.block b hb' hn).2
        ⟨(hbb b (Nat.lt_of_lt_of_le hb' h.fr.size) (fun hm => hx (hSfx _ hm))).trans (h.fr.block b hb' hn).1, hx⟩⟩
  exact hK _ _ _ rfl (base.put (h4.flat hr)) ⟨h5.size, fun b hb' hn => hbb b hb' hn⟩ ⟨h5.os, h5.tape, h5.output, h5.size, fun b hb' hn => ⟨hbb b hb' (fun hm => hn (hSfx _ hm)), hn⟩⟩

theorem OD.lookS {f t : Nat} {fo : Operand} {ars : Array Operand} {ts : Array TypeId} {args : List D} {r : D} {Sf R : List Blk} (hw : Wants ops x o true) (ho : o.op = .call { callee := .value fo, args := ars, argTypes := ts }) (hd : o.dst = some t)
    (hf : fo = .func f) (hcall : ∀ args w, (callFunc f args).run P w = .ok (.enter f args) w) (hc : VC P C.G f args Sf (fun r' S' => r' = r ∧ S' = Sf)) (hr : flatD r = true) (hfl : flatS Sf = true) (hp : x.S.Perm (Sf ++ R)) (ha : LooksR x R ars.toList args)
    (K : OD P C ops l (x.put t r) Q) : OD P C ops (o :: l) x Q := OD.eff hw (eff_lookS ho hd hf hcall hc hr hfl hp ha) fun y hy => hy ▸ K

theorem ld_rowB {S : List Blk} {α : Type} {g : α → List D} {t k b sz i e n : Nat} {ls : List α} (hg : ∀ a, (g a).length = sz) (hk : S[k]? = some (⟨b, e, n, ls.flatMap g⟩ : Blk)) (ha : ∀ w, (isAgg t).run P w = .ok true w) (hn : ∀ w, (sizeOf t).run P w = .ok sz w) (hi : i < ls.length) (hne : isMap e = false := by rfl) : R1 P G S (Op.load t) (.v (.pointer (some ⟨b, 0 + i * sz, none⟩))) (.blk k) (.agg (g ls[i])) :=
  ld_rows (hne := hne) hg hk rfl rfl ha hn hi

/-! ### The same blocks in another order: by counting -/

theorem perm_cnt {l r : List Blk} (h : ∀ f : Blk → Nat, (l.map f).sum = (r.map f).sum) : l.Perm r := by
  classical
  rw [List.perm_iff_count]
  intro a
  have key : ∀ l : List Blk, (l.map fun b => if b = a then 1 else 0).sum = l.count a := by
    intro l
    induction l with
    | nil => rfl
    | cons b l ih =>
      rw [List.map_cons, List.sum_cons, ih, List.count_cons]
      by_cases e : b = a <;> simp [e, Nat.add_comm]
  have := h (fun b => if b = a then 1 else 0)
  rw [key, key] at this
  exact this
theorem perm_sum {l r : List Blk} (h : l.Perm r) (f : Blk → Nat) : (l.map f).sum = (r.map f).sum := by
  induction h with
  | nil => rfl
  | cons x _ ih => simp [ih]
  | swap x y l => simp only [List.map_cons, List.sum_cons]; omega
  | trans _ _ h1 h2 => exact h1.trans h2

theorem NP.norm {Φ : St → Prop} : NP (fun e y => e = Exit.normal ∧ Φ y) := fun c y hq => by cases hq.1

end Go.Proofs.YtcogdagfcndbfaaDoor.V

namespace Go.Proofs.YtcogdagfcndbfaaDoor.Lk
open Go.RowKit V
set_option linter.unusedVariables false
set_option linter.unusedSimpArgs false

variable (G : List (Nat × List Value))
theorem del_new {q : List L} {i cap : Nat} (hi : i < q.length) (hc : q.length ≤ cap) : ((q.flatMap cL).drop (offs cap (i + 1) 3 0)).take ((q.length - (i + 1)) * 3) = (q.drop (i + 1)).flatMap cL := by
  unfold offs
  by_cases h : cap = i + 1
  · have e : q.length = i + 1 := by omega
    have e2 : q.drop (i + 1) = [] := List.drop_of_length_le (by omega)
    rw [if_pos h, show q.length - (i + 1) = 0 from by omega, e2]; simp
  · rw [if_neg h, Nat.zero_add, fm_drop cL_len, List.take_of_length_le]
    rw [fm_len cL_len, List.length_drop]; exact Nat.le_refl _
theorem del_cs {q : List L} {i : Nat} (hi : i < q.length) : setAll (q.flatMap cL) (i * 3) ((q.drop (i + 1)).flatMap cL) = (q.eraseIdx i).flatMap cL ++ (q.flatMap cL).drop (i * 3 + ((q.drop (i + 1)).flatMap cL).length) := by
  rw [setAll_eq _ _ _ (by rw [fm_len cL_len, fm_len cL_len, List.length_drop]; omega), fm_take cL_len, List.eraseIdx_eq_take_drop_succ, List.flatMap_append]

theorem infoS : (Tryd.prog.info? 27).map (fun i => i.size) = some 3 := by have h := infoL; cases hh : Tryd.prog.info? 27 with | none => rw [hh] at h; cases h | some i => rw [hh] at h; simp at h; simp [h.2.1]
set_option maxHeartbeats 4000000 in
set_option maxRecDepth 100000 in
theorem delete_vc (q : List L) (i cap b : Nat) (hi : i < q.length) (hc : q.length ≤ cap) (hm : cap ≤ maxLen) (hs : q.length ≤ 1000) : VC Tryd.prog G 34 [.v (.slice (some ⟨b, 0, none⟩) q.length cap), .v (.int .i64 (i : Nat)), .v (.int .i64 ((i + 1 : Nat) : Int))] [⟨b, 27, cap * 3, q.flatMap cL⟩] (fun r S => r = .v (.slice (some ⟨b, 0, none⟩) (q.length - 1) cap) ∧ S = [⟨b, 27, cap * 3, (q.eraseIdx i).flatMap cL⟩]) := by
  refine VC.body Tryd.func34 rfl Tryd.ntmps34 (Nat.le_of_ble_eq_true rfl) fun X0 w0 S00 => ?_
  refine CD.seq ?_
  refine CD.region ?_
  refine OD.still (wants_plain rfl) rfl (still_as rfl opd_const) ?_
  refine OD.wk (Wk.as_ (n := 33) (l' := [(0, _), (1, _), (2, _)]) (S' := [_]) rfl rfl ⟨lk, lk, lk, trivial⟩) ?_
  refine OD.nil ?_
  refine CD.seq ?_
  refine CD.region ?_
  refine OD.still (wants_plain rfl) rfl (still_mv rfl ot) ?_
  refine OD.still (wants_plain rfl) rfl (still_mv rfl ot) ?_
  refine OD.still (wants_plain rfl) rfl (still_mv rfl ot) ?_
  refine OD.still (wants_plain rfl) rfl (still_mv rfl ot) ?_
  refine OD.still (wants_plain rfl) rfl (still_r1 (mk := fun y => .call { callee := .builtin .len, args := #[y], argTypes := #[23] }) rfl ot (by first | exact len_list rfl Tryd.runUnderlying23 | exact len_row rfl Tryd.runUnderlying23)) ?_
  refine OD.still (wants_plain rfl) rfl (still_rslice3 rfl ot ot ot ot Tryd.runUnderlying23 Tryd.sizeOf27 (by omega) (by omega) hc) ?_
  refine OD.wk (Wk.as_ (n := 33) (l' := [(0, _), (1, _), (2, _)]) (S' := [_]) rfl rfl ⟨lk, lk, lk, trivial⟩) ?_
  refine OD.nil ?_
  refine CD.seq ?_
  refine CD.seq ?_
  refine CD.region ?_
  refine OD.still (wants_plain rfl) rfl (still_mv rfl ot) ?_
  refine OD.still (wants_plain rfl) rfl (still_mv rfl ot) ?_
  refine OD.still (wants_plain rfl) rfl (still_bin rfl ot ot bin_eql) ?_
  refine OD.wk (Wk.as_ (n := 33) (l' := [(0, _), (1, _), (2, _), (16, _)]) (S' := [_]) rfl rfl ⟨lk, lk, lk, lk, trivial⟩) ?_
  refine OD.nil ?_
  refine CD.cond ot (fun hc0 => ?_) (fun hc0 => ?_)
  · exact absurd hc0 (by simp at hc0; omega)
  · have hc0' := hc0
    (try simp only [decide_eq_true_eq, decide_eq_false_iff_not, beq_iff_eq, bne_iff_ne, Bool.not_eq_true', Bool.not_eq_false', Bool.not_eq_true, Bool.not_eq_false, beq_eq_false_iff_ne, ne_eq, bne_eq_false_iff_eq, Bool.and_eq_true, Bool.or_eq_true, Bool.not_not, Bool.and_eq_false_iff, Bool.or_eq_false_iff, Int.not_lt, Int.not_le] at hc0')
    refine CD.skip ?_
    refine CD.seq ?_
    refine CD.region ?_
    refine OD.still (wants_plain rfl) rfl (still_mv rfl ot) ?_
    refine OD.still (wants_plain rfl) rfl (still_r1 (mk := fun y => .call { callee := .builtin .len, args := #[y], argTypes := #[23] }) rfl ot (by first | exact len_list rfl Tryd.runUnderlying23 | exact len_row rfl Tryd.runUnderlying23)) ?_
    refine OD.still (wants_plain rfl) rfl (still_as rfl ot) ?_
    refine OD.wk (Wk.as_ (n := 33) (l' := [(0, _), (1, _), (2, _), (7, _)]) (S' := [_]) rfl rfl ⟨lk, lk, lk, lk, trivial⟩) ?_
    refine OD.nil ?_
    refine CD.seq ?_
    refine CD.draw (bks (List.eraseIdx _ 0)) (by kernel_rfl) (fun _ h => (List.Sublist.map _ (List.eraseIdx_sublist _ 0)).subset h) ?_
    refine AD0.take (i := 0) rfl (by kernel_rfl) (by kernel_rfl) (by kernel_rfl) (by repeat (first | exact NP.body | apply NP.then | apply NP.cut | apply NP.inBlock | apply NP.round)) (wants_plain rfl) rfl (still_mv rfl ot) (by exact trivial) ?_
    refine AD0.take (i := 1) rfl (by kernel_rfl) (by kernel_rfl) (by kernel_rfl) (by repeat (first | exact NP.body | apply NP.then | apply NP.cut | apply NP.inBlock | apply NP.round)) (wants_plain rfl) rfl (still_mv rfl ot) (by exact trivial) ?_
    refine AD0.take (i := 2) rfl (by kernel_rfl) (by kernel_rfl) (by kernel_rfl) (by repeat (first | exact NP.body | apply NP.then | apply NP.cut | apply NP.inBlock | apply NP.round)) (wants_plain rfl) rfl (still_rs (l := 0) (h := i) rfl ot trivial ⟨_, ot⟩ (by first | exact sl_head cL_len (fun h => by cases h) Tryd.runUnderlying23 Tryd.sizeOf27 (by omega) | exact sl_row (fun h => by cases h) Tryd.runUnderlying23 Tryd.sizeOf27 (by omega) | exact sl_rowG (fun _ => rfl) (fun h => by cases h) Tryd.runUnderlying23 Tryd.sizeOf27 (by omega) (by omega) | exact sl_list (fun _ => rfl) (fun h => by cases h) Tryd.runUnderlying23 Tryd.sizeOf27 (by omega) (by omega))) (by exact trivial) ?_
    refine AD0.take (i := 3) rfl (by kernel_rfl) (by kernel_rfl) (by kernel_rfl) (by repeat (first | exact NP.body | apply NP.then | apply NP.cut | apply NP.inBlock | apply NP.round)) (wants_plain rfl) rfl (still_mv rfl ot) (by exact trivial) ?_
    refine AD0.take (i := 4) rfl (by kernel_rfl) (by kernel_rfl) (by kernel_rfl) (by repeat (first | exact NP.body | apply NP.then | apply NP.cut | apply NP.inBlock | apply NP.round)) (wants_plain rfl) rfl (still_mv rfl ot) (by exact trivial) ?_
    refine AD0.take (i := 5) rfl (by kernel_rfl) (by kernel_rfl) (by kernel_rfl) (by repeat (first | exact NP.body | apply NP.then | apply NP.cut | apply NP.inBlock | apply NP.round)) (wants_plain rfl) rfl (still_rs (l := i + 1) rfl ot ⟨_, ot⟩ trivial (by first | exact sl_tail rfl cL_len (fun h => by cases h) Tryd.runUnderlying23 Tryd.sizeOf27 (by omega) | exact sl_row (fun _ => rfl) Tryd.runUnderlying23 Tryd.sizeOf27 (by omega) | exact sl_rowG (fun h => by cases h) (fun _ => rfl) Tryd.runUnderlying23 Tryd.sizeOf27 (by omega) (by omega) | exact sl_list (fun h => by cases h) (fun _ => rfl) Tryd.runUnderlying23 Tryd.sizeOf27 (by omega) (by omega))) (by exact trivial) ?_
    refine AD0.later rfl ?_
    refine AD.one (i := 6) (by kernel_rfl) ?_
    refine AStep.appendIn (n := i) (m := q.length - (i + 1)) (k := 0) (new := (q.drop (i + 1)).flatMap cL) (cs' := (q.eraseIdx i).flatMap cL ++ (q.flatMap cL).drop (i * 3 + ((q.drop (i + 1)).flatMap cL).length)) rfl (wants_plain rfl) rfl rfl Tryd.underlying23 infoS ot rfl rfl ot (del_new hi hc) (by rw [fm_len cL_len, List.length_drop]) (fm_one cL_one _) (by omega) (by show _ ≤ (q.flatMap cL).length; rw [fm_len cL_len]; omega) (del_cs hi) (by intro b hb; simp [bks, St.put] at hb ⊢; try first | exact hb | simp [hb] | (rcases hb with hb | hb <;> simp [hb]) | (rcases hb with hb | hb | hb <;> simp [hb])) ?_
    rw [show i + (q.length - (i + 1)) = q.length - 1 from by omega]
    refine AD.take (i := 7) rfl (by kernel_rfl) (by kernel_rfl) (by kernel_rfl) (by repeat (first | exact NP.body | apply NP.then | apply NP.cut | apply NP.inBlock | apply NP.round)) (wants_plain rfl) rfl (still_as rfl ot) (by exact trivial) (by intro h; cases h) ?_
    refine AD.wk (y := ⟨33, [(0, _), (7, _)], [_]⟩) (Wk.as_ rfl rfl ⟨lk, lk, trivial⟩) rfl ?_
    refine AD.done (by kernel_rfl) ?_
    refine CD.seq ?_
    refine CD.region ?_
    refine OD.still (wants_plain rfl) rfl (still_mv rfl ot) ?_
    refine OD.still (wants_plain rfl) rfl (still_mv rfl ot) ?_
    refine OD.still (wants_plain rfl) rfl (still_r1 (mk := fun y => .call { callee := .builtin .len, args := #[y], argTypes := #[23] }) rfl ot (by first | exact len_list rfl Tryd.runUnderlying23 | exact len_row rfl Tryd.runUnderlying23)) ?_
    refine OD.still (wants_plain rfl) rfl (still_mv rfl ot) ?_
    refine OD.still (wants_plain rfl) rfl (still_rs (l := q.length - 1) (h := q.length) rfl ot ⟨_, ot⟩ ⟨_, ot⟩ (by first | exact sl_row (fun h => by cases h) Tryd.runUnderlying23 Tryd.sizeOf27 (by omega) | exact sl_rowG (fun h => by cases h) (fun h => by cases h) Tryd.runUnderlying23 Tryd.sizeOf27 (by omega) (by omega) | exact sl_list (fun h => by cases h) (fun h => by cases h) Tryd.runUnderlying23 Tryd.sizeOf27 (by omega) (by omega))) ?_
    refine OD.shrink (k := 0) (cs' := (q.eraseIdx i).flatMap cL) rfl (List.prefix_append _ _) ?_
    refine OD.clear (k := 0) (sz := 3) (wants_plain rfl) rfl rfl Tryd.underlying23 Tryd.zeroValue27 rfl (by kernel_rfl) ot rfl rfl (fun h0 => ?_) ?_
    · have h3 : offs cap (q.length - 1) 3 0 = (q.length - 1) * 3 := by unfold offs; rw [if_neg (by omega)]; omega
      rw [h3]; refine ⟨?_, ?_⟩
      · show ((q.eraseIdx i).flatMap cL).length ≤ _; rw [fm_len cL_len, List.length_eraseIdx_of_lt hi]; exact Nat.le_refl _
      · show _ ≤ cap * 3; omega
    refine OD.wk (Wk.as_ (n := 33) (l' := [(0, _)]) (S' := [_]) rfl rfl ⟨lk, trivial⟩) ?_
    refine OD.nil ?_
    refine CD.seq ?_
    refine CD.region ?_
    refine OD.still (wants_plain rfl) rfl (still_mv rfl ot) ?_
    refine OD.still (wants_plain rfl) rfl (still_as rfl ot) ?_
    refine OD.wk (Wk.as_ (n := 33) (l' := [(6, _)]) (S' := [_]) rfl rfl ⟨lk, trivial⟩) ?_
    refine OD.nil ?_
    refine CD.ret ?_
    refine ⟨.inr rfl, _, [_], (by repeat (first | exact List.Sublist.refl _ | apply List.Sublist.cons)), ret_one Tryd.results34 (res_tmp (Nat.le_of_ble_eq_true rfl) lk), ?_⟩
    exact ⟨rfl, rfl⟩

set_option maxHeartbeats 4000000 in
set_option maxRecDepth 100000 in
theorem leave1_vc (t : Int) (y : L) (b : Nat) : VC Tryd.prog G 32 [lockD y, .v (.pointer (some ⟨b, 0, none⟩))] [⟨b, 3, 1, [.v (.int .i64 t)]⟩] (fun r S => r = .v (.bool (y.t == t)) ∧ S = [⟨b, 3, 1, [.v (.int .i64 t)]⟩]) := by
  refine VC.body Tryd.func32 rfl Tryd.ntmps32 (Nat.le_of_ble_eq_true rfl) fun X0 w0 S00 => ?_
  unfold lockD cL
  refine CD.seq ?_
  refine CD.region ?_
  refine OD.box (ds := [_, _, _]) (wants_plain rfl) rfl rfl ot rfl rfl (fun b2 => ?_)
  refine OD.still (wants_plain rfl) rfl (still_as rfl opd_const) ?_
  refine OD.wk (Wk.as_ (n := 8) (l' := [(1, _), (2, _)]) (S' := [⟨b2, 27, 3, [_, _, _]⟩, ⟨_, _, _, [_]⟩]) rfl rfl ⟨lk, lk, trivial⟩) ?_
  refine OD.nil ?_
  refine CD.seq ?_
  refine CD.region ?_
  refine OD.still (wants_plain rfl) rfl (still_r1 (mk := fun y => Op.fieldAddr 27 y 0) rfl ot (by first | exact fa_ptr (off := 0) Tryd.runUnderlying27 rfl Tryd.sizeOf3 rfl | exact fa_iptr (off := 0) Tryd.runUnderlying27 rfl Tryd.sizeOf3 rfl)) ?_
  refine OD.still (wants_plain rfl) rfl (still_r1 (mk := Op.load 3) rfl ot (by first | exact ld_blk (k := 0) rfl rfl Tryd.isAgg3 rfl | exact ld_i Tryd.isAgg3 rfl)) ?_
  refine OD.still (wants_plain rfl) rfl (still_r1 (mk := Op.load 3) rfl ot (by first | exact ld_blk (k := 1) rfl rfl Tryd.isAgg3 rfl | exact ld_i Tryd.isAgg3 rfl)) ?_
  refine OD.still (wants_plain rfl) rfl (still_bin rfl ot ot bin_eql) ?_
  refine OD.still (wants_plain rfl) rfl (still_as rfl ot) ?_
  refine OD.wk (Wk.as_ (n := 8) (l' := [(3, _)]) (S' := [⟨b2, 27, 3, [_, _, _]⟩, ⟨_, _, _, [_]⟩]) rfl rfl ⟨lk, trivial⟩) ?_
  refine OD.nil ?_
  refine CD.ret ?_
  refine ⟨.inr rfl, _, [⟨b, 3, 1, [.v (.int .i64 t)]⟩], (by repeat (first | exact List.Sublist.refl _ | apply List.Sublist.cons)), ret_one Tryd.results32 (res_tmp (Nat.le_of_ble_eq_true rfl) lk), ?_⟩
  exact ⟨rfl, rfl⟩


theorem idx_none {p : L → Bool} {q : List L} (h : idxI p q < 0) : q.filter (fun x => !p x) = q := by
  rw [List.filter_eq_self]
  intro x hx
  unfold idxI at h
  cases hf : q.findIdx? p with
  | none => have := List.findIdx?_eq_none_iff.1 hf x hx; simp [this]
  | some k => rw [hf] at h; simp at h; omega
theorem idx_some {p : L → Bool} {q : List L} {k : Nat} (h : q.findIdx? p = some k) : k < q.length ∧ (q.take (k + 1)).filter (fun x => !p x) = q.take k := by
  obtain ⟨h1, h2, h3⟩ := List.findIdx?_eq_some_iff_getElem.1 h
  refine ⟨h1, ?_⟩
  rw [List.take_succ_eq_append_getElem h1, List.filter_append, List.filter_eq_self.2]
  · simp [h2]
  · intro x hx
    obtain ⟨j, hj, rfl⟩ := List.mem_iff_getElem.1 hx
    rw [List.length_take] at hj
    rw [List.getElem_take]
    simpa using h3 j (by omega)
theorem idxI_m1 {p : L → Bool} {q : List L} (h : idxI p q < 0) : idxI p q = -1 := by
  unfold idxI at h ⊢
  cases hf : q.findIdx? p with
  | none => rfl
  | some k => rw [hf] at h; simp at h; omega
theorem take_prefix (cur : List L) (i : Nat) : (cur.take i).flatMap cL <+: cur.flatMap cL := by
  have h := fm_prefix (g := cL) (cur.take i) (cur.drop i)
  rwa [List.take_append_drop] at h
/-- Half way through DeleteFunc: what has been kept, what is still to come. -/
structure Half (p : L → Bool) (q cur : List L) (i j : Nat) : Prop where
  len : cur.length = q.length
  lt : i < j
  le : j ≤ q.length
  kept : cur.take i = (q.take j).filter (fun x => !p x)
  rest : ∀ k (h : j ≤ k) (h1 : k < cur.length) (h2 : k < q.length), cur[k] = q[k]
theorem Half.start {p : L → Bool} {q : List L} {k : Nat} (h : q.findIdx? p = some k) : Half p q q k (k + 1) :=
  ⟨rfl, by omega, (idx_some h).1, (idx_some h).2.symm, fun _ _ _ _ => rfl⟩
theorem Half.skip {p : L → Bool} {q cur : List L} {i j : Nat} (h : Half p q cur i j) (hj : j < q.length) (hp : p q[j] = true) : Half p q cur i (j + 1) :=
  ⟨h.len, by have := h.lt; omega, hj, by rw [h.kept, List.take_succ_eq_append_getElem hj, List.filter_append]; simp [hp], fun k hk h1 h2 => h.rest k (by omega) h1 h2⟩
theorem Half.keep {p : L → Bool} {q cur : List L} {i j : Nat} (h : Half p q cur i j) (hj : j < q.length) (hp : p q[j] = false) : Half p q (cur.set i q[j]) (i + 1) (j + 1) :=
  ⟨by rw [List.length_set]; exact h.len, by have := h.lt; omega, hj, by
    have hi : i < cur.length := by have := h.lt; have := h.len; omega
    rw [List.take_succ_eq_append_getElem (by rw [List.length_set]; exact hi), List.getElem_set_self, List.take_set_of_le (Nat.le_refl _), h.kept, List.take_succ_eq_append_getElem hj, List.filter_append]; simp [hp],
   fun k hk h1 h2 => by rw [List.getElem_set_ne (by have := h.lt; omega)]; exact h.rest k (by omega) _ h2⟩

set_option maxHeartbeats 4000000 in
set_option maxRecDepth 100000 in
theorem deleteFunc_vc (q : List L) (ad : Option Addr) (cap : Nat) (Sq Sx : List Blk) (g : Nat) (caps : List D) (p : L → Bool) (ho : OwnK q ad cap Sq) (hs : q.length ≤ 1000) (hcall : ∀ args w, (callFunc g args).run Tryd.prog w = .ok (.enter g args) w) (hp : ∀ x, VC Tryd.prog G g (lockD x :: caps) Sx (fun r S' => r = .v (.bool (p x)) ∧ S' = Sx)) (hfl : flatS Sx = true) :
    VC Tryd.prog G 33 [.v (.slice ad q.length cap), .clo (.func g) caps] (Sq ++ Sx) (fun r S => ∃ ad' cap' Sq', r = .v (.slice ad' (q.filter (fun x => !p x)).length cap') ∧ OwnK (q.filter (fun x => !p x)) ad' cap' Sq' ∧ S.Perm (Sq' ++ Sx)) := by
  refine VC.body Tryd.func33 rfl Tryd.ntmps33 (Nat.le_of_ble_eq_true rfl) fun X0 w0 S00 => ?_
  refine CD.seq ?_
  refine CD.region ?_
  refine OD.still (wants_plain rfl) rfl (still_as rfl opd_const) ?_
  refine OD.wk (Wk.as_ (n := 42) (l' := [(0, _), (1, _)]) (S' := ((Sq ++ Sx))) rfl rfl ⟨lk, lk, trivial⟩) ?_
  refine OD.nil ?_
  refine CD.seq ?_
  refine CD.region ?_
  refine OD.still (wants_plain rfl) rfl (still_mv rfl ot) ?_
  refine OD.still (wants_plain rfl) rfl (still_mv rfl ot) ?_
  rcases Int.lt_or_le (idxI p q) 0 with hfi | hfi
  · skip
    refine OD.lookS (Sf := Sx) (R := Sq) (wants_plain rfl) rfl rfl rfl Tryd.call43 (index_vc _ q g caps Sx p hcall (fun y _ => hp y) (by omega)) rfl hfl List.perm_append_comm ⟨⟨_, ot, view_own ho (cells_len _) (fun B hB => hB)⟩, ⟨_, ot, view_same⟩, trivial⟩ ?_
    refine OD.still (wants_plain rfl) rfl (still_as rfl ot) ?_
    refine OD.wk (Wk.as_ (n := 42) (l' := [(0, _), (1, _), (5, _)]) (S' := ((Sq ++ Sx))) rfl rfl ⟨lk, lk, lk, trivial⟩) ?_
    refine OD.nil ?_
    refine CD.seq ?_
    refine CD.seq ?_
    refine CD.region ?_
    refine OD.still (wants_plain rfl) rfl (still_mv rfl ot) ?_
    refine OD.still (wants_plain rfl) rfl (still_bin rfl ot opd_const bin_eql) ?_
    refine OD.wk (Wk.as_ (n := 42) (l' := [(0, _), (1, _), (5, _), (12, _)]) (S' := ((Sq ++ Sx))) rfl rfl ⟨lk, lk, lk, lk, trivial⟩) ?_
    refine OD.nil ?_
    refine CD.cond ot (fun hc0 => ?_) (fun hc0 => ?_)
    · have hc0' := hc0
      (try simp only [decide_eq_true_eq, decide_eq_false_iff_not, beq_iff_eq, bne_iff_ne, Bool.not_eq_true', Bool.not_eq_false', Bool.not_eq_true, Bool.not_eq_false, beq_eq_false_iff_ne, ne_eq, bne_eq_false_iff_eq, Bool.and_eq_true, Bool.or_eq_true, Bool.not_not, Bool.and_eq_false_iff, Bool.or_eq_false_iff, Int.not_lt, Int.not_le] at hc0')
      refine CD.seq ?_
      refine CD.region ?_
      refine OD.still (wants_plain rfl) rfl (still_mv rfl ot) ?_
      refine OD.still (wants_plain rfl) rfl (still_as rfl ot) ?_
      refine OD.wk (Wk.as_ (n := 42) (l' := [(4, _)]) (S' := ((Sq ++ Sx))) rfl rfl ⟨lk, trivial⟩) ?_
      refine OD.nil ?_
      refine CD.ret ?_
      refine ⟨.inr rfl, _, _, (.refl _), ret_one Tryd.results33 (res_tmp (Nat.le_of_ble_eq_true rfl) lk), ?_⟩
      first | (rw [idx_none hfi]; exact ⟨ad, cap, Sq, rfl, ho, List.Perm.refl _⟩) | (rw [← hfin]; refine ⟨some ⟨bq, 0, none⟩, cap, [⟨bq, 27, cap * 3, (cur.take i).flatMap cL⟩], ?_, .inr ⟨bq, rfl, by rw [List.length_take]; omega, hh2, rfl⟩, List.Perm.refl _⟩; rw [List.length_take, Nat.min_eq_left (by omega)])
    · exact absurd hc0 (by have := idxI_m1 hfi; simp [this] at hc0)
  · skip
    refine OD.lookS (Sf := Sx) (R := Sq) (wants_plain rfl) rfl rfl rfl Tryd.call43 (index_vc _ q g caps Sx p hcall (fun y _ => hp y) (by omega)) rfl hfl List.perm_append_comm ⟨⟨_, ot, view_own ho (cells_len _) (fun B hB => hB)⟩, ⟨_, ot, view_same⟩, trivial⟩ ?_
    obtain ⟨j, hj, hj1, hj2, hj3⟩ := idxI_nn hfi
    rw [show idxI p q = (j : Nat) from hj1]
    rcases ho with ⟨h0, _⟩ | ⟨bq, rfl, hh1, hh2, rfl⟩
    · omega
    refine OD.still (wants_plain rfl) rfl (still_as rfl ot) ?_
    refine OD.wk (Wk.as_ (n := 42) (l' := [(0, _), (1, _), (5, _)]) (S' := (_ :: Sx)) rfl rfl ⟨lk, lk, lk, trivial⟩) ?_
    refine OD.nil ?_
    refine CD.seq ?_
    refine CD.seq ?_
    refine CD.region ?_
    refine OD.still (wants_plain rfl) rfl (still_mv rfl ot) ?_
    refine OD.still (wants_plain rfl) rfl (still_bin rfl ot opd_const bin_eql) ?_
    refine OD.wk (Wk.as_ (n := 42) (l' := [(0, _), (1, _), (5, _), (12, _)]) (S' := (_ :: Sx)) rfl rfl ⟨lk, lk, lk, lk, trivial⟩) ?_
    refine OD.nil ?_
    refine CD.cond ot (fun hc0 => ?_) (fun hc0 => ?_)
    · exact absurd hc0 (by first | (simp at hc0; done) | (simp at hc0; omega))
    · have hc0' := hc0
      (try simp only [decide_eq_true_eq, decide_eq_false_iff_not, beq_iff_eq, bne_iff_ne, Bool.not_eq_true', Bool.not_eq_false', Bool.not_eq_true, Bool.not_eq_false, beq_eq_false_iff_ne, ne_eq, bne_eq_false_iff_eq, Bool.and_eq_true, Bool.or_eq_true, Bool.not_not, Bool.and_eq_false_iff, Bool.or_eq_false_iff, Int.not_lt, Int.not_le] at hc0')
      refine CD.skip ?_
      refine CD.seq ?_
      refine CD.seq ?_
      refine CD.region ?_
      refine OD.still (wants_plain rfl) rfl (still_mv rfl ot) ?_
      refine OD.still (wants_plain rfl) rfl (still_bin rfl ot opd_const (bin_add (wrap_i64 (by omega) (by omega)))) ?_
      refine OD.still (wants_plain rfl) rfl (still_as rfl ot) ?_
      refine OD.wk (Wk.as_ (n := 42) (l' := [(0, _), (1, _), (5, _), (6, _)]) (S' := (_ :: Sx)) rfl rfl ⟨lk, lk, lk, lk, trivial⟩) ?_
      refine OD.nil ?_
      refine CD.block ?_
      refine CD.wk (Wk.asS (n := 42) (l' := [(0, .v (.slice (some ⟨bq, 0, none⟩) q.length cap)), (1, .clo (.func g) caps), (5, .v (.int .i64 (j : Nat))), (6, .v (.int .i64 (((j + 1)) : Nat)))]) (S' := (⟨bq, 27, cap * 3, q.flatMap cL⟩ :: Sx)) rfl (by repeat (first | exact List.Sublist.refl _ | apply List.Sublist.cons)) ⟨(by (repeat (first | exact look_hit | (apply look_at; focus (first | rfl | (simp; done) | (congr 2; omega))) | (apply look_miss; focus rfl))); done), (by (repeat (first | exact look_hit | (apply look_at; focus (first | rfl | (simp; done) | (congr 2; omega))) | (apply look_miss; focus rfl))); done), (by (repeat (first | exact look_hit | (apply look_at; focus (first | rfl | (simp; done) | (congr 2; omega))) | (apply look_miss; focus rfl))); done), (by (repeat (first | exact look_hit | (apply look_at; focus (first | rfl | (simp; done) | (congr 2; omega))) | (apply look_miss; focus rfl))); done), trivial⟩) (CD.loop (fun (gh__ : List L × Nat × Nat) y__ => match gh__ with | (cur, i, k) => (Half p q cur i k) ∧ (i < q.length) ∧ y__ = (⟨42, [(0, .v (.slice (some ⟨bq, 0, none⟩) q.length cap)), (1, .clo (.func g) caps), (5, .v (.int .i64 (i : Nat))), (6, .v (.int .i64 (k : Nat)))], (⟨bq, 27, cap * 3, cur.flatMap cL⟩ :: Sx)⟩ : St)) (fun (gh__ : List L × Nat × Nat) => match gh__ with | (cur, i, k) => q.length - k) (q, j, (j + 1)) ⟨(Half.start hj2), hj, rfl⟩ ?_)
      rintro ⟨cur, i, k⟩ _ ⟨hh, hil, rfl⟩
      refine CD.seq ?_
      refine CD.seq ?_
      refine CD.region ?_
      refine OD.still (wants_plain rfl) rfl (still_mv rfl ot) ?_
      refine OD.still (wants_plain rfl) rfl (still_mv rfl ot) ?_
      refine OD.still (wants_plain rfl) rfl (still_r1 (mk := fun y => .call { callee := .builtin .len, args := #[y], argTypes := #[23] }) rfl ot (by first | exact len_list rfl Tryd.runUnderlying23 | exact len_row rfl Tryd.runUnderlying23)) ?_
      refine OD.still (wants_plain rfl) rfl (still_bin rfl ot ot bin_lss) ?_
      refine OD.wk (Wk.as_ (n := 42) (l' := [(0, _), (1, _), (5, _), (6, _), (19, _)]) (S' := (_ :: Sx)) rfl rfl ⟨lk, lk, lk, lk, lk, trivial⟩) ?_
      refine OD.nil ?_
      refine CD.cond ot (fun hc1 => ?_) (fun hc1 => ?_)
      · have hc1' := hc1
        (try simp only [decide_eq_true_eq, decide_eq_false_iff_not, beq_iff_eq, bne_iff_ne, Bool.not_eq_true', Bool.not_eq_false', Bool.not_eq_true, Bool.not_eq_false, beq_eq_false_iff_ne, ne_eq, bne_eq_false_iff_eq, Bool.and_eq_true, Bool.or_eq_true, Bool.not_not, Bool.and_eq_false_iff, Bool.or_eq_false_iff, Int.not_lt, Int.not_le] at hc1')
        have hkq : k < q.length := by omega
        have hkc : k < cur.length := by rw [hh.len]; exact hkq
        have hic : i < cur.length := by have := hh.lt; omega
        have hrest : cur[k] = q[k] := hh.rest k (Nat.le_refl _) hkc hkq
        have hcl := hh.len
        refine CD.skip ?_
        refine CD.seq ?_
        refine CD.block ?_
        refine CD.seq ?_
        refine CD.region ?_
        refine OD.still (wants_plain rfl) rfl (still_mv rfl ot) ?_
        refine OD.still (wants_plain rfl) rfl (still_mv rfl ot) ?_
        refine OD.still (wants_plain rfl) rfl (still_r2 (mk := Op.indexAddr 23) rfl ot ot (by first | exact ix_list Tryd.runUnderlying23 Tryd.sizeOf27 rfl (by first | assumption | omega) | exact ix_list (j := Int.toNat _) Tryd.runUnderlying23 Tryd.sizeOf27 (Int.toNat_of_nonneg (by omega)).symm (by omega) | exact ix_row Tryd.runUnderlying23 Tryd.sizeOf27 rfl (by first | assumption | omega) | exact ix_row (j := Int.toNat _) Tryd.runUnderlying23 Tryd.sizeOf27 (Int.toNat_of_nonneg (by omega)).symm (by omega))) ?_
        refine OD.still (wants_plain rfl) rfl (still_r1 (mk := Op.load 27) rfl ot (ld_rowB (k := 0) cL_len rfl Tryd.isAgg27 Tryd.sizeOf27 hkc)) ?_
        refine OD.alloc (ds := [_, _, _]) (wants_plain rfl) rfl rfl Tryd.zeroValue27 rfl (fun b7 => ?_)
        rw [hrest]
        refine OD.store (k := 0) (cs' := [_, _, _]) (wants_plain rfl) rfl rfl ot rfl rfl ot rfl rfl Tryd.sizeOf27 rfl rfl rfl ?_
        refine OD.wk (Wk.as_ (n := 42) (l' := [(0, _), (1, _), (5, _), (6, _), (7, _)]) (S' := (⟨b7, 27, 3, [_, _, _]⟩ :: _ :: Sx)) rfl rfl ⟨lk, lk, lk, lk, lk, trivial⟩) ?_
        refine OD.nil ?_
        refine CD.seq ?_
        refine CD.region ?_
        refine OD.still (wants_plain rfl) rfl (still_mv rfl ot) ?_
        refine OD.still (wants_plain rfl) rfl (still_r1 (mk := Op.load 27) rfl ot (by first | exact ld_blks (k := 0) (ds := [_, _, _]) rfl rfl Tryd.isAgg27 Tryd.sizeOf27 rfl rfl | exact ld_fms cL_len Tryd.isAgg27 Tryd.sizeOf27 (by first | assumption | omega) | exact ld_rows (k := 0) cL_len rfl rfl rfl Tryd.isAgg27 Tryd.sizeOf27 (by first | assumption | omega) | exact ld_rows (k := 1) cL_len rfl rfl rfl Tryd.isAgg27 Tryd.sizeOf27 (by first | assumption | omega) | exact ld_is (ds := [_, _, _]) Tryd.isAgg27 Tryd.sizeOf27 rfl rfl)) ?_
        refine OD.callv (f := g) (args := [_]) (wants_plain rfl) rfl rfl ot hcall (hp q[k]) rfl ⟨ot, trivial⟩ (List.perm_append_comm (l₁ := [_, _])) ?_; rintro _ S2 ⟨rfl, hS2⟩; rw [hS2]; clear hS2
        refine OD.perm (List.perm_append_comm (l₂ := [_, _])) ?_
        refine OD.still (wants_plain rfl) rfl (still_un rfl ot un_not) ?_
        refine OD.wk (Wk.as_ (n := 42) (l' := [(0, _), (1, _), (5, _), (6, _), (7, _), (29, _)]) (S' := (⟨b7, 27, 3, [_, _, _]⟩ :: _ :: Sx)) rfl rfl ⟨lk, lk, lk, lk, lk, lk, trivial⟩) ?_
        refine OD.nil ?_
        refine CD.cond ot (fun hc2 => ?_) (fun hc2 => ?_)
        · have hc2' := hc2
          (try simp only [decide_eq_true_eq, decide_eq_false_iff_not, beq_iff_eq, bne_iff_ne, Bool.not_eq_true', Bool.not_eq_false', Bool.not_eq_true, Bool.not_eq_false, beq_eq_false_iff_ne, ne_eq, bne_eq_false_iff_eq, Bool.and_eq_true, Bool.or_eq_true, Bool.not_not, Bool.and_eq_false_iff, Bool.or_eq_false_iff, Int.not_lt, Int.not_le] at hc2')
          have hpk : p q[k] = false := by simpa using hc2
          have hh2 := hh.keep hkq hpk
          refine CD.seq ?_
          refine CD.region ?_
          refine OD.still (wants_plain rfl) rfl (still_mv rfl ot) ?_
          refine OD.still (wants_plain rfl) rfl (still_mv rfl ot) ?_
          refine OD.still (wants_plain rfl) rfl (still_r1 (mk := Op.load 27) rfl ot (by first | exact ld_blks (k := 0) (ds := [_, _, _]) rfl rfl Tryd.isAgg27 Tryd.sizeOf27 rfl rfl | exact ld_fms cL_len Tryd.isAgg27 Tryd.sizeOf27 (by first | assumption | omega) | exact ld_rows (k := 0) cL_len rfl rfl rfl Tryd.isAgg27 Tryd.sizeOf27 (by first | assumption | omega) | exact ld_rows (k := 1) cL_len rfl rfl rfl Tryd.isAgg27 Tryd.sizeOf27 (by first | assumption | omega) | exact ld_is (ds := [_, _, _]) Tryd.isAgg27 Tryd.sizeOf27 rfl rfl)) ?_
          refine OD.still (wants_plain rfl) rfl (still_r2 (mk := Op.indexAddr 23) rfl ot ot (by first | exact ix_list Tryd.runUnderlying23 Tryd.sizeOf27 rfl (by first | assumption | omega) | exact ix_list (j := Int.toNat _) Tryd.runUnderlying23 Tryd.sizeOf27 (Int.toNat_of_nonneg (by omega)).symm (by omega) | exact ix_row Tryd.runUnderlying23 Tryd.sizeOf27 rfl (by first | assumption | omega) | exact ix_row (j := Int.toNat _) Tryd.runUnderlying23 Tryd.sizeOf27 (Int.toNat_of_nonneg (by omega)).symm (by omega))) ?_
          refine OD.storeAt (k := 1) (cs' := (cur.set i q[k]).flatMap cL) (wants_plain rfl) rfl rfl ot rfl rfl ot rfl rfl Tryd.sizeOf27 rfl (by rw [fm_len cL_len]; omega) (by rw [Nat.zero_add]; exact fm_set cL_len _ _ hic) ?_
          refine OD.wk (Wk.as_ (n := 42) (l' := [(0, _), (1, _), (5, _), (6, _)]) (S' := (⟨b7, 27, 3, [_, _, _]⟩ :: _ :: Sx)) rfl rfl ⟨lk, lk, lk, lk, trivial⟩) ?_
          refine OD.nil ?_
          refine CD.region ?_
          refine OD.still (wants_plain rfl) rfl (still_mv rfl ot) ?_
          refine OD.still (wants_plain rfl) rfl (still_bin rfl ot opd_const (bin_add (wrap_i64 (by omega) (by omega)))) ?_
          refine OD.still (wants_plain rfl) rfl (still_as rfl ot) ?_
          refine OD.wk (Wk.as_ (n := 42) (l' := [(0, _), (1, _), (5, _), (6, _)]) (S' := (⟨b7, 27, 3, [_, _, _]⟩ :: _ :: Sx)) rfl rfl ⟨lk, lk, lk, lk, trivial⟩) ?_
          refine OD.nil ?_
          refine CD.region ?_
          refine OD.still (wants_plain rfl) rfl (still_mv rfl ot) ?_
          refine OD.still (wants_plain rfl) rfl (still_bin rfl ot opd_const (bin_add (wrap_i64 (by omega) (by omega)))) ?_
          refine OD.still (wants_plain rfl) rfl (still_as rfl ot) ?_
          refine OD.wk (Wk.as_ (n := 42) (l' := [(0, _), (1, _), (5, _), (6, _)]) (S' := (⟨b7, 27, 3, [_, _, _]⟩ :: _ :: Sx)) rfl rfl ⟨lk, lk, lk, lk, trivial⟩) ?_
          refine OD.nil ?_
          refine ⟨((cur.set i q[k]), (i + 1), (k + 1)), ⟨42, [(0, .v (.slice (some ⟨bq, 0, none⟩) q.length cap)), (1, .clo (.func g) caps), (5, .v (.int .i64 (((i + 1)) : Nat))), (6, .v (.int .i64 (((k + 1)) : Nat)))], (⟨bq, 27, cap * 3, ((cur.set i q[k])).flatMap cL⟩ :: Sx)⟩, ?_, Wk.asS (n := 42) rfl (by repeat (first | exact List.Sublist.refl _ | apply List.Sublist.cons)) ⟨(by (repeat (first | exact look_hit | (apply look_at; focus (first | rfl | (simp; done) | (congr 2; omega))) | (apply look_miss; focus rfl))); done), (by (repeat (first | exact look_hit | (apply look_at; focus (first | rfl | (simp; done) | (congr 2; omega))) | (apply look_miss; focus rfl))); done), (by (repeat (first | exact look_hit | (apply look_at; focus (first | rfl | (simp; done) | (congr 2; omega))) | (apply look_miss; focus rfl))); done), (by (repeat (first | exact look_hit | (apply look_at; focus (first | rfl | (simp; done) | (congr 2; omega))) | (apply look_miss; focus rfl))); done), trivial⟩, (by assumption), (by have := hh2.lt; have := hh2.le; omega), rfl⟩
          first | omega | (simp only []; omega)
        · have hc2' := hc2
          (try simp only [decide_eq_true_eq, decide_eq_false_iff_not, beq_iff_eq, bne_iff_ne, Bool.not_eq_true', Bool.not_eq_false', Bool.not_eq_true, Bool.not_eq_false, beq_eq_false_iff_ne, ne_eq, bne_eq_false_iff_eq, Bool.and_eq_true, Bool.or_eq_true, Bool.not_not, Bool.and_eq_false_iff, Bool.or_eq_false_iff, Int.not_lt, Int.not_le] at hc2')
          have hpk : p q[k] = true := by simpa using hc2
          have hh2 := hh.skip hkq hpk
          refine CD.skip ?_
          refine CD.region ?_
          refine OD.still (wants_plain rfl) rfl (still_mv rfl ot) ?_
          refine OD.still (wants_plain rfl) rfl (still_bin rfl ot opd_const (bin_add (wrap_i64 (by omega) (by omega)))) ?_
          refine OD.still (wants_plain rfl) rfl (still_as rfl ot) ?_
          refine OD.wk (Wk.as_ (n := 42) (l' := [(0, _), (1, _), (5, _), (6, _)]) (S' := (⟨b7, 27, 3, [_, _, _]⟩ :: _ :: Sx)) rfl rfl ⟨lk, lk, lk, lk, trivial⟩) ?_
          refine OD.nil ?_
          refine ⟨(cur, i, (k + 1)), ⟨42, [(0, .v (.slice (some ⟨bq, 0, none⟩) q.length cap)), (1, .clo (.func g) caps), (5, .v (.int .i64 (i : Nat))), (6, .v (.int .i64 (((k + 1)) : Nat)))], (⟨bq, 27, cap * 3, cur.flatMap cL⟩ :: Sx)⟩, ?_, Wk.asS (n := 42) rfl (by repeat (first | exact List.Sublist.refl _ | apply List.Sublist.cons)) ⟨(by (repeat (first | exact look_hit | (apply look_at; focus (first | rfl | (simp; done) | (congr 2; omega))) | (apply look_miss; focus rfl))); done), (by (repeat (first | exact look_hit | (apply look_at; focus (first | rfl | (simp; done) | (congr 2; omega))) | (apply look_miss; focus rfl))); done), (by (repeat (first | exact look_hit | (apply look_at; focus (first | rfl | (simp; done) | (congr 2; omega))) | (apply look_miss; focus rfl))); done), (by (repeat (first | exact look_hit | (apply look_at; focus (first | rfl | (simp; done) | (congr 2; omega))) | (apply look_miss; focus rfl))); done), trivial⟩, (by assumption), (by have := hh2.lt; have := hh2.le; omega), rfl⟩
          first | omega | (simp only []; omega)
      · have hc1' := hc1
        (try simp only [decide_eq_true_eq, decide_eq_false_iff_not, beq_iff_eq, bne_iff_ne, Bool.not_eq_true', Bool.not_eq_false', Bool.not_eq_true, Bool.not_eq_false, beq_eq_false_iff_ne, ne_eq, bne_eq_false_iff_eq, Bool.and_eq_true, Bool.or_eq_true, Bool.not_not, Bool.and_eq_false_iff, Bool.or_eq_false_iff, Int.not_lt, Int.not_le] at hc1')
        have hkq : k = q.length := by have := hh.le; omega
        have hfin : cur.take i = q.filter (fun x => !p x) := by rw [hh.kept, hkq, List.take_length]
        have hcl := hh.len
        refine CD.exit ?_
        refine CD.seq ?_
        refine CD.region ?_
        refine OD.still (wants_plain rfl) rfl (still_mv rfl ot) ?_
        refine OD.still (wants_plain rfl) rfl (still_mv rfl ot) ?_
        refine OD.still (wants_plain rfl) rfl (still_rs (l := i) (h := q.length) rfl ot ⟨_, ot⟩ trivial (by first | exact sl_tail rfl cL_len (fun h => by cases h) Tryd.runUnderlying23 Tryd.sizeOf27 (by omega) | exact sl_row (fun _ => rfl) Tryd.runUnderlying23 Tryd.sizeOf27 (by omega) | exact sl_rowG (fun h => by cases h) (fun _ => rfl) Tryd.runUnderlying23 Tryd.sizeOf27 (by omega) (by omega) | exact sl_list (fun h => by cases h) (fun _ => rfl) Tryd.runUnderlying23 Tryd.sizeOf27 (by omega) (by omega))) ?_
        refine OD.shrink (k := 0) (cs' := (cur.take i).flatMap cL) rfl (take_prefix _ _) ?_
        refine OD.clear (k := 0) (sz := 3) (wants_plain rfl) rfl rfl Tryd.underlying23 Tryd.zeroValue27 rfl (by kernel_rfl) ot rfl rfl (fun h0 => ?_) ?_
        · have h3 : offs cap i 3 0 = i * 3 := by unfold offs; rw [if_neg (by omega)]; omega
          rw [h3]; refine ⟨?_, ?_⟩
          · show ((cur.take i).flatMap cL).length ≤ _; rw [fm_len cL_len, List.length_take]; omega
          · show _ ≤ cap * 3; omega
        refine OD.wk (Wk.as_ (n := 42) (l' := [(0, _), (5, _)]) (S' := (_ :: Sx)) rfl rfl ⟨lk, lk, trivial⟩) ?_
        refine OD.nil ?_
        refine CD.seq ?_
        refine CD.region ?_
        refine OD.still (wants_plain rfl) rfl (still_mv rfl ot) ?_
        refine OD.still (wants_plain rfl) rfl (still_mv rfl ot) ?_
        refine OD.still (wants_plain rfl) rfl (still_rs (l := 0) (h := i) rfl ot trivial ⟨_, ot⟩ (by first | exact sl_head cL_len (fun h => by cases h) Tryd.runUnderlying23 Tryd.sizeOf27 (by omega) | exact sl_row (fun h => by cases h) Tryd.runUnderlying23 Tryd.sizeOf27 (by omega) | exact sl_rowG (fun _ => rfl) (fun h => by cases h) Tryd.runUnderlying23 Tryd.sizeOf27 (by omega) (by omega) | exact sl_list (fun _ => rfl) (fun h => by cases h) Tryd.runUnderlying23 Tryd.sizeOf27 (by omega) (by omega))) ?_
        refine OD.still (wants_plain rfl) rfl (still_as rfl ot) ?_
        refine OD.wk (Wk.as_ (n := 42) (l' := [(4, _)]) (S' := (_ :: Sx)) rfl rfl ⟨lk, trivial⟩) ?_
        refine OD.nil ?_
        refine CD.ret ?_
        refine ⟨.inr rfl, _, _, (.refl _), ret_one Tryd.results33 (res_tmp (Nat.le_of_ble_eq_true rfl) lk), ?_⟩
        first | (rw [idx_none hfi]; exact ⟨ad, cap, Sq, rfl, ho, List.Perm.refl _⟩) | (rw [← hfin]; refine ⟨some ⟨bq, 0, none⟩, cap, [⟨bq, 27, cap * 3, (cur.take i).flatMap cL⟩], ?_, .inr ⟨bq, rfl, by rw [List.length_take]; omega, hh2, rfl⟩, List.Perm.refl _⟩; rw [List.length_take, Nat.min_eq_left (by omega)])

end Go.Proofs.YtcogdagfcndbfaaDoor.Lk

namespace Go.Proofs.YtcogdagfcndbfaaDoor.Lk
open Go.RowKit V
set_option linter.unusedVariables false
set_option linter.unusedSimpArgs false

def cI (n : Int) : List D := [.v (.int .i64 n)]
theorem cI_len (n : Int) : (cI n).length = 1 := rfl
theorem cI_one (n : Int) : (cI n).all V.one = true := rfl
abbrev OwnI (ws : List Int) (ad : Option Addr) (cap : Nat) (S : List Blk) : Prop := OwnL 3 1 (ws.flatMap cI) ws.length ad cap S
theorem ownI_nil : OwnI [] none 0 [] := .inl ⟨rfl, rfl, rfl, rfl, rfl⟩
theorem infoI : (Tryd.prog.info? 3).map (fun i => (i.zero, i.size, i.bytes)) = some (some (.int .i64 0), 1, 8) := by kernel_rfl
def leaveF (held queue : List L) (t : Int) : List L × List L × List Int × Int :=
  if t < 1 ∨ t > 1048576 then ([], [], [], 3) else ((leaveG held queue t).1, (leaveG held queue t).2.1, (leaveG held queue t).2.2, 0)
theorem leave_no {held queue : List L} {t : Int} (h : t < 1 ∨ t > 1048576) : leaveF held queue t = ([], [], [], 3) := if_pos h
theorem leave_yes {held queue h q : List L} {ws : List Int} {t : Int} (h1 : 1 ≤ t) (h2 : t ≤ 1048576) (e : leaveG held queue t = (h, q, ws)) : leaveF held queue t = (h, q, ws, 0) := by
  unfold leaveF; rw [if_neg (by omega), e]
theorem wake_end {h q : List L} {i : Nat} {ws : List Int} (hi : ¬ i < q.length) : wake h q i ws = (h, q, ws) := by rw [wake, dif_neg hi]
theorem wake_no {h q : List L} {i : Nat} {ws : List Int} (hi : i < q.length) (hf : firstQ h (q.take i) q[i] = false) : wake h q i ws = wake h q (i + 1) ws := by rw [wake, dif_pos hi, if_neg (by rw [hf]; exact Bool.false_ne_true)]
theorem wake_yes {h q : List L} {i : Nat} {ws : List Int} (hi : i < q.length) (hf : firstQ h (q.take i) q[i] = true) : wake h q i ws = wake (haveL h q[i]) (q.eraseIdx i) 0 (ws ++ [q[i].t]) := by rw [wake, dif_pos hi, if_pos hf]
theorem haveL_mode {h : List L} {x : L} (hm : ∀ y ∈ h, modeB y.m = true) (hx : modeB x.m = true) : ∀ y ∈ haveL h x, modeB y.m = true := by
  intro y hy
  unfold haveL at hy
  split at hy
  · obtain ⟨j, hj, rfl⟩ := List.mem_iff_getElem.1 hy
    rw [List.length_modify] at hj
    rw [List.getElem_modify]
    split
    · exact hx
    · exact hm _ (List.getElem_mem hj)
  · rcases List.mem_append.1 hy with hy | hy
    · exact hm y hy
    · simp only [List.mem_singleton] at hy; subst hy; exact hx
abbrev LeavePost (held queue : List L) (t : Int) (r : D) (S : List Blk) : Prop := ∃ h' q' ws e ah ch aq cq aw cw Sh Sq Sw, leaveF held queue t = (h', q', ws, e) ∧ r = .tup [.agg [.v (.slice ah h'.length ch), .v (.slice aq q'.length cq)], .v (.slice aw ws.length cw), .v (.int .i64 e)] ∧ OwnK h' ah ch Sh ∧ OwnK q' aq cq Sq ∧ OwnI ws aw cw Sw ∧ S.Perm (Sw ++ (Sq ++ Sh))

theorem Good.modeQ {held queue : List L} (g : Good held queue) : ∀ h ∈ queue, modeB h.m = true := fun h hh => by
  obtain ⟨k, hk, rfl⟩ := List.mem_iff_getElem.1 hh
  exact (g.atQ hk).2.1

theorem places25_Lk8 : ∀ w, ((#[{ name := "Held", type := 23, offset := 0, embedded := false, tag := "", pkgPath := "", byteOffset := 0 }, { name := "Queue", type := 23, offset := 1, embedded := false, tag := "", pkgPath := "", byteOffset := 24 }] : Array Field).mapM fun f => do pure (f.offset, ← sizeOf f.type) : Sem (Array (Nat × Nat))).run Tryd.prog w = .ok #[(0, 1), (1, 1)] w := fun w => by simp [Tryd.sizeOf23]

set_option maxHeartbeats 4000000 in
set_option maxRecDepth 100000 in
theorem leave_vc (held queue : List L) (t : Int) (g : Good held queue) : VC Tryd.prog TG 17 [locksS held queue, .v (.int .i64 t)] [] (LeavePost held queue t) := by
  refine VC.body Tryd.func17 rfl Tryd.ntmps17 (Nat.le_of_ble_eq_true rfl) fun X0 w0 S00 => ?_
  unfold locksS
  have few := g.few
  refine CD.seq ?_
  refine CD.region ?_
  refine OD.box (ds := [_, _]) (wants_plain rfl) rfl rfl ot rfl rfl (fun b2 => ?_)
  refine OD.box (ds := [_]) (wants_plain rfl) rfl rfl ot rfl rfl (fun b3 => ?_)
  refine OD.alloc (ds := [_, _]) (wants_plain rfl) rfl rfl Tryd.zeroValue25 rfl (fun b4 => ?_)
  refine OD.still (wants_plain rfl) rfl (still_as rfl opd_const) ?_
  refine OD.still (wants_plain rfl) rfl (still_as rfl opd_const) ?_
  refine OD.wk (Wk.as_ (n := 72) (l' := [(2, _), (3, _), (4, _)]) (S' := [⟨b4, 25, 2, [_, _]⟩, ⟨b3, 3, 1, [_]⟩, ⟨b2, 25, 2, [_, _]⟩]) rfl rfl ⟨lk, lk, lk, trivial⟩) ?_
  refine OD.nil ?_
  refine CD.seq ?_
  refine CD.seq ?_
  refine CD.region ?_
  refine OD.still (wants_plain rfl) rfl (still_r1 (mk := Op.load 25) rfl ot (by first | exact ld_blks (k := 2) (ds := [_, _]) rfl rfl Tryd.isAgg25 Tryd.sizeOf25 rfl rfl | exact ld_fms cL_len Tryd.isAgg25 Tryd.sizeOf25 (by first | assumption | omega) | exact ld_rows (k := 0) cL_len rfl rfl rfl Tryd.isAgg25 Tryd.sizeOf25 (by first | assumption | omega) | exact ld_rows (k := 1) cL_len rfl rfl rfl Tryd.isAgg25 Tryd.sizeOf25 (by first | assumption | omega) | exact ld_rows (k := 2) cL_len rfl rfl rfl Tryd.isAgg25 Tryd.sizeOf25 (by first | assumption | omega) | exact ld_is (ds := [_, _]) Tryd.isAgg25 Tryd.sizeOf25 rfl rfl)) ?_
  refine OD.callP (wants_plain rfl) rfl rfl rfl Tryd.call18 (check_vp held queue g) ⟨ot, trivial⟩ ?_
  refine OD.still (wants_plain rfl) rfl (still_as rfl ot) ?_
  refine OD.wk (Wk.as_ (n := 72) (l' := [(2, _), (3, _), (4, _), (7, _)]) (S' := [⟨b4, 25, 2, [_, _]⟩, ⟨b3, 3, 1, [_]⟩, ⟨b2, 25, 2, [_, _]⟩]) rfl rfl ⟨lk, lk, lk, lk, trivial⟩) ?_
  refine OD.nil ?_
  refine CD.seq ?_
  refine CD.region ?_
  refine OD.still (wants_plain rfl) rfl (still_mv rfl ot) ?_
  refine OD.still (wants_plain rfl) rfl (still_bin rfl ot opd_const bin_neq) ?_
  refine OD.wk (Wk.as_ (n := 72) (l' := [(2, _), (3, _), (4, _), (7, _), (16, _)]) (S' := [⟨b4, 25, 2, [_, _]⟩, ⟨b3, 3, 1, [_]⟩, ⟨b2, 25, 2, [_, _]⟩]) rfl rfl ⟨lk, lk, lk, lk, lk, trivial⟩) ?_
  refine OD.nil ?_
  refine CD.cond ot (fun hc0 => ?_) (fun hc0 => ?_)
  · exact absurd hc0 (by simp at hc0)
  · have hc0' := hc0
    (try simp only [decide_eq_true_eq, decide_eq_false_iff_not, beq_iff_eq, bne_iff_ne, Bool.not_eq_true', Bool.not_eq_false', Bool.not_eq_true, Bool.not_eq_false, beq_eq_false_iff_ne, ne_eq, bne_eq_false_iff_eq, Bool.and_eq_true, Bool.or_eq_true, Bool.not_not, Bool.and_eq_false_iff, Bool.or_eq_false_iff, Int.not_lt, Int.not_le] at hc0')
    refine CD.skip ?_
    refine CD.seq ?_
    refine CD.seq ?_
    refine CD.region ?_
    rcases (show t < 1 ∨ (1 ≤ t ∧ t > 1048576) ∨ (1 ≤ t ∧ t ≤ 1048576) by omega) with hr | hr | hr
    · skip
      refine OD.still (wants_plain rfl) rfl (still_r1 (mk := Op.load 3) rfl ot (by first | exact ld_blk (k := 1) rfl rfl Tryd.isAgg3 rfl | exact ld_fm cL_len Tryd.isAgg3 (by first | assumption | omega) rfl | exact ld_fm0 cL_len Tryd.isAgg3 (by first | assumption | omega) rfl | exact ld_row (k := 0) cL_len rfl rfl rfl Tryd.isAgg3 (by first | assumption | omega) rfl | exact ld_row0 (k := 0) cL_len rfl rfl rfl Tryd.isAgg3 (by first | assumption | omega) rfl | exact ld_row (k := 1) cL_len rfl rfl rfl Tryd.isAgg3 (by first | assumption | omega) rfl | exact ld_row0 (k := 1) cL_len rfl rfl rfl Tryd.isAgg3 (by first | assumption | omega) rfl | exact ld_row (k := 2) cL_len rfl rfl rfl Tryd.isAgg3 (by first | assumption | omega) rfl | exact ld_row0 (k := 2) cL_len rfl rfl rfl Tryd.isAgg3 (by first | assumption | omega) rfl | exact ld_i Tryd.isAgg3 rfl | exact ld_tab (List.mem_cons_self) Tryd.isAgg3 (fitsC_off (by omega) (by omega) (by omega) (by omega)) | exact ld_tab (List.mem_cons_of_mem _ List.mem_cons_self) Tryd.isAgg3 (joinsC_off (by omega) (by omega) (by omega) (by omega)))) ?_
      refine OD.still (wants_plain rfl) rfl (still_bin rfl ot opd_const bin_lss) ?_
      refine OD.still (wants_plain rfl) rfl (still_mv rfl ot) ?_
      refine OD.split (t := 21) lk (fun hg21 => ?_) (fun hg21 => ?_)
      · have hg21' := hg21; (try simp only [decide_eq_true_eq, decide_eq_false_iff_not, beq_iff_eq, bne_iff_ne, Bool.not_eq_true', Bool.not_eq_false', Bool.not_eq_true, Bool.not_eq_false, beq_eq_false_iff_ne, ne_eq, bne_eq_false_iff_eq, Bool.and_eq_true, Bool.or_eq_true, Bool.not_not] at hg21')
        refine OD.skip (wants_F rfl rfl rfl lk (by first | rfl | assumption)) rfl ?_
        refine OD.skip (wants_F rfl rfl rfl lk (by first | rfl | assumption)) rfl ?_
        refine OD.still (wants_plain rfl) rfl (still_pickT rfl ot (by first | rfl | assumption) opd_const) ?_
        refine OD.wk (Wk.as_ (n := 72) (l' := [(2, _), (3, _), (4, _), (24, _)]) (S' := [⟨b4, 25, 2, [_, _]⟩, ⟨b3, 3, 1, [_]⟩, ⟨b2, 25, 2, [_, _]⟩]) rfl rfl ⟨lk, lk, lk, lk, trivial⟩) ?_
        refine OD.nil ?_
        refine CD.condT ot (by first | rfl | assumption) ?_
        refine CD.seq ?_
        refine CD.region ?_
        refine OD.still (wants_plain rfl) rfl (still_bld (pl := []) (ds := [_, _]) rfl Tryd.zeroValue25 Tryd.runUnderlying25 places25_Lk8 trivial rfl rfl) ?_
        refine OD.store (k := 0) (cs' := [_, _]) (wants_plain rfl) rfl rfl ot rfl rfl ot rfl rfl Tryd.sizeOf25 rfl rfl rfl ?_
        refine OD.still (wants_plain rfl) rfl (still_as rfl opd_const) ?_
        refine OD.still (wants_plain rfl) rfl (still_as rfl opd_const) ?_
        refine OD.wk (Wk.as_ (n := 72) (l' := [(4, _), (5, _), (6, _)]) (S' := [⟨b4, 25, 2, [_, _]⟩, ⟨b3, 3, 1, [_]⟩, ⟨b2, 25, 2, [_, _]⟩]) rfl rfl ⟨lk, lk, lk, trivial⟩) ?_
        refine OD.nil ?_
        refine CD.ret ?_
        refine ⟨.inr rfl, _, [], (List.nil_sublist _), ret_three Tryd.results17 (res_cells (k := 0) (ds := [_, _]) (Nat.le_of_ble_eq_true rfl) lk rfl rfl Tryd.isAgg25 Tryd.sizeOf25 rfl rfl) (res_tmp (Nat.le_of_ble_eq_true rfl) lk) (res_tmp (Nat.le_of_ble_eq_true rfl) lk), ?_⟩
        first | (refine ⟨_, _, _, _, _, _, _, _, _, _, _, _, _, leave_no (by omega), rfl, own_nil, own_nil, ownI_nil, List.Perm.refl _⟩) | (refine ⟨_, _, _, _, _, _, _, _, _, _, _, _, _, leave_yes (by omega) (by omega) hend.symm, rfl, hoh3, hoq3, how, List.Perm.refl _⟩) | skip
      · exact absurd hg21 (by first | (simp at hg21; done) | (simp at hg21; omega))
    · skip
      refine OD.still (wants_plain rfl) rfl (still_r1 (mk := Op.load 3) rfl ot (by first | exact ld_blk (k := 1) rfl rfl Tryd.isAgg3 rfl | exact ld_fm cL_len Tryd.isAgg3 (by first | assumption | omega) rfl | exact ld_fm0 cL_len Tryd.isAgg3 (by first | assumption | omega) rfl | exact ld_row (k := 0) cL_len rfl rfl rfl Tryd.isAgg3 (by first | assumption | omega) rfl | exact ld_row0 (k := 0) cL_len rfl rfl rfl Tryd.isAgg3 (by first | assumption | omega) rfl | exact ld_row (k := 1) cL_len rfl rfl rfl Tryd.isAgg3 (by first | assumption | omega) rfl | exact ld_row0 (k := 1) cL_len rfl rfl rfl Tryd.isAgg3 (by first | assumption | omega) rfl | exact ld_row (k := 2) cL_len rfl rfl rfl Tryd.isAgg3 (by first | assumption | omega) rfl | exact ld_row0 (k := 2) cL_len rfl rfl rfl Tryd.isAgg3 (by first | assumption | omega) rfl | exact ld_i Tryd.isAgg3 rfl | exact ld_tab (List.mem_cons_self) Tryd.isAgg3 (fitsC_off (by omega) (by omega) (by omega) (by omega)) | exact ld_tab (List.mem_cons_of_mem _ List.mem_cons_self) Tryd.isAgg3 (joinsC_off (by omega) (by omega) (by omega) (by omega)))) ?_
      refine OD.still (wants_plain rfl) rfl (still_bin rfl ot opd_const bin_lss) ?_
      refine OD.still (wants_plain rfl) rfl (still_mv rfl ot) ?_
      refine OD.split (t := 21) lk (fun hg21 => ?_) (fun hg21 => ?_)
      · exact absurd hg21 (by first | (simp at hg21; done) | (simp at hg21; omega))
      · have hg21' := hg21; (try simp only [decide_eq_true_eq, decide_eq_false_iff_not, beq_iff_eq, bne_iff_ne, Bool.not_eq_true', Bool.not_eq_false', Bool.not_eq_true, Bool.not_eq_false, beq_eq_false_iff_ne, ne_eq, bne_eq_false_iff_eq, Bool.and_eq_true, Bool.or_eq_true, Bool.not_not] at hg21')
        refine OD.still (wants_T rfl rfl rfl lk (by first | rfl | assumption)) rfl (still_r1 (mk := Op.load 3) rfl ot (by first | exact ld_blk (k := 1) rfl rfl Tryd.isAgg3 rfl | exact ld_fm cL_len Tryd.isAgg3 (by first | assumption | omega) rfl | exact ld_fm0 cL_len Tryd.isAgg3 (by first | assumption | omega) rfl | exact ld_row (k := 0) cL_len rfl rfl rfl Tryd.isAgg3 (by first | assumption | omega) rfl | exact ld_row0 (k := 0) cL_len rfl rfl rfl Tryd.isAgg3 (by first | assumption | omega) rfl | exact ld_row (k := 1) cL_len rfl rfl rfl Tryd.isAgg3 (by first | assumption | omega) rfl | exact ld_row0 (k := 1) cL_len rfl rfl rfl Tryd.isAgg3 (by first | assumption | omega) rfl | exact ld_row (k := 2) cL_len rfl rfl rfl Tryd.isAgg3 (by first | assumption | omega) rfl | exact ld_row0 (k := 2) cL_len rfl rfl rfl Tryd.isAgg3 (by first | assumption | omega) rfl | exact ld_i Tryd.isAgg3 rfl | exact ld_tab (List.mem_cons_self) Tryd.isAgg3 (fitsC_off (by omega) (by omega) (by omega) (by omega)) | exact ld_tab (List.mem_cons_of_mem _ List.mem_cons_self) Tryd.isAgg3 (joinsC_off (by omega) (by omega) (by omega) (by omega)))) ?_
        refine OD.still (wants_T rfl rfl rfl lk (by first | rfl | assumption)) rfl (still_bin rfl ot opd_const bin_gtr) ?_
        refine OD.still (wants_plain rfl) rfl (still_pickF rfl ot (by first | rfl | assumption) ot) ?_
        refine OD.wk (Wk.as_ (n := 72) (l' := [(2, _), (3, _), (4, _), (24, _)]) (S' := [⟨b4, 25, 2, [_, _]⟩, ⟨b3, 3, 1, [_]⟩, ⟨b2, 25, 2, [_, _]⟩]) rfl rfl ⟨lk, lk, lk, lk, trivial⟩) ?_
        refine OD.nil ?_
        refine CD.cond ot (fun hc1 => ?_) (fun hc1 => ?_)
        · have hc1' := hc1
          (try simp only [decide_eq_true_eq, decide_eq_false_iff_not, beq_iff_eq, bne_iff_ne, Bool.not_eq_true', Bool.not_eq_false', Bool.not_eq_true, Bool.not_eq_false, beq_eq_false_iff_ne, ne_eq, bne_eq_false_iff_eq, Bool.and_eq_true, Bool.or_eq_true, Bool.not_not, Bool.and_eq_false_iff, Bool.or_eq_false_iff, Int.not_lt, Int.not_le] at hc1')
          refine CD.seq ?_
          refine CD.region ?_
          refine OD.still (wants_plain rfl) rfl (still_bld (pl := []) (ds := [_, _]) rfl Tryd.zeroValue25 Tryd.runUnderlying25 places25_Lk8 trivial rfl rfl) ?_
          refine OD.store (k := 0) (cs' := [_, _]) (wants_plain rfl) rfl rfl ot rfl rfl ot rfl rfl Tryd.sizeOf25 rfl rfl rfl ?_
          refine OD.still (wants_plain rfl) rfl (still_as rfl opd_const) ?_
          refine OD.still (wants_plain rfl) rfl (still_as rfl opd_const) ?_
          refine OD.wk (Wk.as_ (n := 72) (l' := [(4, _), (5, _), (6, _)]) (S' := [⟨b4, 25, 2, [_, _]⟩, ⟨b3, 3, 1, [_]⟩, ⟨b2, 25, 2, [_, _]⟩]) rfl rfl ⟨lk, lk, lk, trivial⟩) ?_
          refine OD.nil ?_
          refine CD.ret ?_
          refine ⟨.inr rfl, _, [], (List.nil_sublist _), ret_three Tryd.results17 (res_cells (k := 0) (ds := [_, _]) (Nat.le_of_ble_eq_true rfl) lk rfl rfl Tryd.isAgg25 Tryd.sizeOf25 rfl rfl) (res_tmp (Nat.le_of_ble_eq_true rfl) lk) (res_tmp (Nat.le_of_ble_eq_true rfl) lk), ?_⟩
          first | (refine ⟨_, _, _, _, _, _, _, _, _, _, _, _, _, leave_no (by omega), rfl, own_nil, own_nil, ownI_nil, List.Perm.refl _⟩) | (refine ⟨_, _, _, _, _, _, _, _, _, _, _, _, _, leave_yes (by omega) (by omega) hend.symm, rfl, hoh3, hoq3, how, List.Perm.refl _⟩) | skip
        · exact absurd hc1 (by first | (simp at hc1; done) | (simp at hc1; omega))
    · skip
      refine OD.still (wants_plain rfl) rfl (still_r1 (mk := Op.load 3) rfl ot (by first | exact ld_blk (k := 1) rfl rfl Tryd.isAgg3 rfl | exact ld_fm cL_len Tryd.isAgg3 (by first | assumption | omega) rfl | exact ld_fm0 cL_len Tryd.isAgg3 (by first | assumption | omega) rfl | exact ld_row (k := 0) cL_len rfl rfl rfl Tryd.isAgg3 (by first | assumption | omega) rfl | exact ld_row0 (k := 0) cL_len rfl rfl rfl Tryd.isAgg3 (by first | assumption | omega) rfl | exact ld_row (k := 1) cL_len rfl rfl rfl Tryd.isAgg3 (by first | assumption | omega) rfl | exact ld_row0 (k := 1) cL_len rfl rfl rfl Tryd.isAgg3 (by first | assumption | omega) rfl | exact ld_row (k := 2) cL_len rfl rfl rfl Tryd.isAgg3 (by first | assumption | omega) rfl | exact ld_row0 (k := 2) cL_len rfl rfl rfl Tryd.isAgg3 (by first | assumption | omega) rfl | exact ld_i Tryd.isAgg3 rfl | exact ld_tab (List.mem_cons_self) Tryd.isAgg3 (fitsC_off (by omega) (by omega) (by omega) (by omega)) | exact ld_tab (List.mem_cons_of_mem _ List.mem_cons_self) Tryd.isAgg3 (joinsC_off (by omega) (by omega) (by omega) (by omega)))) ?_
      refine OD.still (wants_plain rfl) rfl (still_bin rfl ot opd_const bin_lss) ?_
      refine OD.still (wants_plain rfl) rfl (still_mv rfl ot) ?_
      refine OD.split (t := 21) lk (fun hg21 => ?_) (fun hg21 => ?_)
      · exact absurd hg21 (by first | (simp at hg21; done) | (simp at hg21; omega))
      · have hg21' := hg21; (try simp only [decide_eq_true_eq, decide_eq_false_iff_not, beq_iff_eq, bne_iff_ne, Bool.not_eq_true', Bool.not_eq_false', Bool.not_eq_true, Bool.not_eq_false, beq_eq_false_iff_ne, ne_eq, bne_eq_false_iff_eq, Bool.and_eq_true, Bool.or_eq_true, Bool.not_not] at hg21')
        refine OD.still (wants_T rfl rfl rfl lk (by first | rfl | assumption)) rfl (still_r1 (mk := Op.load 3) rfl ot (by first | exact ld_blk (k := 1) rfl rfl Tryd.isAgg3 rfl | exact ld_fm cL_len Tryd.isAgg3 (by first | assumption | omega) rfl | exact ld_fm0 cL_len Tryd.isAgg3 (by first | assumption | omega) rfl | exact ld_row (k := 0) cL_len rfl rfl rfl Tryd.isAgg3 (by first | assumption | omega) rfl | exact ld_row0 (k := 0) cL_len rfl rfl rfl Tryd.isAgg3 (by first | assumption | omega) rfl | exact ld_row (k := 1) cL_len rfl rfl rfl Tryd.isAgg3 (by first | assumption | omega) rfl | exact ld_row0 (k := 1) cL_len rfl rfl rfl Tryd.isAgg3 (by first | assumption | omega) rfl | exact ld_row (k := 2) cL_len rfl rfl rfl Tryd.isAgg3 (by first | assumption | omega) rfl | exact ld_row0 (k := 2) cL_len rfl rfl rfl Tryd.isAgg3 (by first | assumption | omega) rfl | exact ld_i Tryd.isAgg3 rfl | exact ld_tab (List.mem_cons_self) Tryd.isAgg3 (fitsC_off (by omega) (by omega) (by omega) (by omega)) | exact ld_tab (List.mem_cons_of_mem _ List.mem_cons_self) Tryd.isAgg3 (joinsC_off (by omega) (by omega) (by omega) (by omega)))) ?_
        refine OD.still (wants_T rfl rfl rfl lk (by first | rfl | assumption)) rfl (still_bin rfl ot opd_const bin_gtr) ?_
        refine OD.still (wants_plain rfl) rfl (still_pickF rfl ot (by first | rfl | assumption) ot) ?_
        refine OD.wk (Wk.as_ (n := 72) (l' := [(2, _), (3, _), (4, _), (24, _)]) (S' := [⟨b4, 25, 2, [_, _]⟩, ⟨b3, 3, 1, [_]⟩, ⟨b2, 25, 2, [_, _]⟩]) rfl rfl ⟨lk, lk, lk, lk, trivial⟩) ?_
        refine OD.nil ?_
        refine CD.cond ot (fun hc1 => ?_) (fun hc1 => ?_)
        · exact absurd hc1 (by first | (simp at hc1; done) | (simp at hc1; omega))
        · have hc1' := hc1
          (try simp only [decide_eq_true_eq, decide_eq_false_iff_not, beq_iff_eq, bne_iff_ne, Bool.not_eq_true', Bool.not_eq_false', Bool.not_eq_true, Bool.not_eq_false, beq_eq_false_iff_ne, ne_eq, bne_eq_false_iff_eq, Bool.and_eq_true, Bool.or_eq_true, Bool.not_not, Bool.and_eq_false_iff, Bool.or_eq_false_iff, Int.not_lt, Int.not_le] at hc1')
          refine CD.skip ?_
          refine CD.seq ?_
          refine CD.region ?_
          refine OD.still (wants_plain rfl) rfl (still_fn (ds := [_]) rfl ⟨ot, trivial⟩) ?_
          refine OD.still (wants_plain rfl) rfl (still_as rfl ot) ?_
          refine OD.wk (Wk.as_ (n := 72) (l' := [(2, _), (4, _), (8, _)]) (S' := [⟨b4, 25, 2, [_, _]⟩, ⟨b3, 3, 1, [_]⟩, ⟨b2, 25, 2, [_, _]⟩]) rfl rfl ⟨lk, lk, lk, trivial⟩) ?_
          refine OD.nil ?_
          refine CD.seq ?_
          refine CD.region ?_
          refine OD.still (wants_plain rfl) rfl (still_r1 (mk := Op.load 25) rfl ot (by first | exact ld_blks (k := 2) (ds := [_, _]) rfl rfl Tryd.isAgg25 Tryd.sizeOf25 rfl rfl | exact ld_fms cL_len Tryd.isAgg25 Tryd.sizeOf25 (by first | assumption | omega) | exact ld_rows (k := 0) cL_len rfl rfl rfl Tryd.isAgg25 Tryd.sizeOf25 (by first | assumption | omega) | exact ld_rows (k := 1) cL_len rfl rfl rfl Tryd.isAgg25 Tryd.sizeOf25 (by first | assumption | omega) | exact ld_rows (k := 2) cL_len rfl rfl rfl Tryd.isAgg25 Tryd.sizeOf25 (by first | assumption | omega) | exact ld_is (ds := [_, _]) Tryd.isAgg25 Tryd.sizeOf25 rfl rfl)) ?_
          refine OD.call (wants_plain rfl) rfl rfl rfl Tryd.call28 (own_vc _ held queue (by omega)) ⟨ot, trivial⟩ (perm_none _) ?_; rintro _ S3 ⟨ah, ch, aq, cq, Sh, Sq, rfl, hoh, hoq, rfl⟩
          refine OD.perm List.perm_append_comm ?_
          refine OD.alloc (ds := [_, _]) (wants_plain rfl) rfl rfl Tryd.zeroValue25 rfl (fun b9 => ?_)
          refine OD.store (k := 0) (cs' := [_, _]) (wants_plain rfl) rfl rfl ot rfl rfl ot rfl rfl Tryd.sizeOf25 rfl rfl rfl ?_
          refine OD.wk (Wk.as_ (n := 72) (l' := [(4, _), (8, _), (9, _)]) (S' := (⟨b9, 25, 2, [_, _]⟩ :: ⟨b4, 25, 2, [_, _]⟩ :: ⟨b3, 3, 1, [_]⟩ :: ⟨b2, 25, 2, [_, _]⟩ :: (Sq ++ Sh))) rfl rfl ⟨lk, lk, lk, trivial⟩) ?_
          refine OD.nil ?_
          refine CD.seq ?_
          refine CD.mono (Q := fun e__ y__ => e__ = Exit.normal ∧ ∃ (ah1 : Option Addr), ∃ (ch1 : Nat), ∃ (Sh1 : List Blk), ∃ (aq1 : Option Addr), ∃ (cq1 : Nat), ∃ (Sq1 : List Blk), (OwnK (held.filter (fun x => !(x.t == t))) ah1 ch1 Sh1) ∧ (OwnK (queue.filter (fun x => !(x.t == t))) aq1 cq1 Sq1) ∧ Wk y__ (⟨72, [(4, .v (.pointer (some ⟨b4, 0, none⟩))), (9, .v (.pointer (some ⟨b9, 0, none⟩)))], (⟨b9, 25, 2, [.v (.slice ah1 (held.filter (fun x => !(x.t == t))).length ch1), .v (.slice aq1 (queue.filter (fun x => !(x.t == t))).length cq1)]⟩ :: ⟨b4, 25, 2, [.v (.slice none 0 0), .v (.slice none 0 0)]⟩ :: ⟨b3, 3, 1, [.v (.int .i64 t)]⟩ :: ⟨b2, 25, 2, [locksD held, locksD queue]⟩ :: (Sq1 ++ Sh1))⟩ : St)) ?_ ?_
          · skip
            refine CD.draw (bks (List.take 0 _)) (by kernel_rfl) (fun _ h => (List.Sublist.map _ (List.take_sublist _ _)).subset h) ?_
            refine AD0.take (i := 0) rfl (by kernel_rfl) (by kernel_rfl) (by kernel_rfl) (by repeat (first | exact NP.norm | exact NP.body | apply NP.then | apply NP.cut | apply NP.inBlock | apply NP.round)) (wants_plain rfl) rfl (still_r1 (mk := fun y => Op.fieldAddr 25 y 0) rfl ot (by first | exact fa_ptr (off := 0) Tryd.runUnderlying25 rfl Tryd.sizeOf23 rfl | exact fa_iptr (off := 0) Tryd.runUnderlying25 rfl Tryd.sizeOf23 rfl)) (by exact trivial) ?_
            refine AD0.take (i := 2) rfl (by kernel_rfl) (by kernel_rfl) (by kernel_rfl) (by repeat (first | exact NP.norm | exact NP.body | apply NP.then | apply NP.cut | apply NP.inBlock | apply NP.round)) (wants_plain rfl) rfl (still_mv rfl ot) (by exact trivial) ?_
            refine AD0.take (i := 4) rfl (by kernel_rfl) (by kernel_rfl) (by kernel_rfl) (by repeat (first | exact NP.norm | exact NP.body | apply NP.then | apply NP.cut | apply NP.inBlock | apply NP.round)) (wants_plain rfl) rfl (still_r1 (mk := fun y => Op.fieldAddr 25 y 1) rfl ot (by first | exact fa_ptr (off := 1) Tryd.runUnderlying25 rfl Tryd.sizeOf23 rfl | exact fa_iptr (off := 1) Tryd.runUnderlying25 rfl Tryd.sizeOf23 rfl)) (by exact trivial) ?_
            refine AD0.take (i := 6) rfl (by kernel_rfl) (by kernel_rfl) (by kernel_rfl) (by repeat (first | exact NP.norm | exact NP.body | apply NP.then | apply NP.cut | apply NP.inBlock | apply NP.round)) (wants_plain rfl) rfl (still_mv rfl ot) (by exact trivial) ?_
            refine AD0.later rfl ?_
            refine AD.two (i := 1) (j := 5) (by kernel_rfl) ?_ ?_
            · skip
              refine AStep.still rfl (wants_plain rfl) rfl (still_r1 (mk := Op.load 23) rfl ot (by first | exact ld_blk (k := 0) rfl rfl Tryd.isAgg23 rfl | exact ld_fm cL_len Tryd.isAgg23 (by first | assumption | omega) rfl | exact ld_fm0 cL_len Tryd.isAgg23 (by first | assumption | omega) rfl | exact ld_row (k := 0) cL_len rfl rfl rfl Tryd.isAgg23 (by first | assumption | omega) rfl | exact ld_row0 (k := 0) cL_len rfl rfl rfl Tryd.isAgg23 (by first | assumption | omega) rfl | exact ld_row (k := 1) cL_len rfl rfl rfl Tryd.isAgg23 (by first | assumption | omega) rfl | exact ld_row0 (k := 1) cL_len rfl rfl rfl Tryd.isAgg23 (by first | assumption | omega) rfl | exact ld_row (k := 2) cL_len rfl rfl rfl Tryd.isAgg23 (by first | assumption | omega) rfl | exact ld_row0 (k := 2) cL_len rfl rfl rfl Tryd.isAgg23 (by first | assumption | omega) rfl | exact ld_row (k := 3) cL_len rfl rfl rfl Tryd.isAgg23 (by first | assumption | omega) rfl | exact ld_row0 (k := 3) cL_len rfl rfl rfl Tryd.isAgg23 (by first | assumption | omega) rfl | exact ld_i Tryd.isAgg23 rfl | exact ld_tab (List.mem_cons_self) Tryd.isAgg23 (fitsC_off (by omega) (by omega) (by omega) (by omega)) | exact ld_tab (List.mem_cons_of_mem _ List.mem_cons_self) Tryd.isAgg23 (joinsC_off (by omega) (by omega) (by omega) (by omega)))) ?_
              refine AD.two (i := 3) (j := 5) (by kernel_rfl) ?_ ?_
              · skip
                refine AStep.call rfl (wants_plain rfl) rfl rfl rfl Tryd.call33 (deleteFunc_vc _ held _ _ Sh [⟨b3, 3, 1, [.v (.int .i64 t)]⟩] 32 [.v (.pointer (some ⟨b3, 0, none⟩))] (fun x => x.t == t) hoh (by omega) Tryd.call32 (fun y => leave1_vc _ t y b3) rfl) ⟨ot, ot, trivial⟩ (R := [⟨b9, 25, 2, [.v (.slice ah held.length ch), .v (.slice aq queue.length cq)]⟩, ⟨b4, 25, 2, [.v (.slice none 0 0), .v (.slice none 0 0)]⟩, ⟨b2, 25, 2, [locksD held, locksD queue]⟩] ++ Sq) (perm_cnt fun f__ => by simp only [St.put, List.map_append, List.map_cons, List.map_nil, List.sum_append, List.sum_cons, List.sum_nil] at *; omega) (fun b hb => by cases hb) ?_
                rintro _ S32 ⟨ad32, cp32, Sd32, rfl, hd32, hS32⟩
                refine AD.perm (S' := ⟨b9, 25, 2, [.v (.slice ah held.length ch), .v (.slice aq queue.length cq)]⟩ :: ⟨b4, 25, 2, [.v (.slice none 0 0), .v (.slice none 0 0)]⟩ :: ⟨b3, 3, 1, [.v (.int .i64 t)]⟩ :: ⟨b2, 25, 2, [locksD held, locksD queue]⟩ :: (Sq ++ Sd32)) (perm_cnt fun f__ => by have := perm_sum hS32 f__; simp only [St.put, List.map_append, List.map_cons, List.map_nil, List.sum_append, List.sum_cons, List.sum_nil] at *; omega) ?_
                refine AD.one (i := 5) (by kernel_rfl) ?_
                refine AStep.still rfl (wants_plain rfl) rfl (still_r1 (mk := Op.load 23) rfl ot (by first | exact ld_blk (k := 0) rfl rfl Tryd.isAgg23 rfl | exact ld_fm cL_len Tryd.isAgg23 (by first | assumption | omega) rfl | exact ld_fm0 cL_len Tryd.isAgg23 (by first | assumption | omega) rfl | exact ld_row (k := 0) cL_len rfl rfl rfl Tryd.isAgg23 (by first | assumption | omega) rfl | exact ld_row0 (k := 0) cL_len rfl rfl rfl Tryd.isAgg23 (by first | assumption | omega) rfl | exact ld_row (k := 1) cL_len rfl rfl rfl Tryd.isAgg23 (by first | assumption | omega) rfl | exact ld_row0 (k := 1) cL_len rfl rfl rfl Tryd.isAgg23 (by first | assumption | omega) rfl | exact ld_row (k := 2) cL_len rfl rfl rfl Tryd.isAgg23 (by first | assumption | omega) rfl | exact ld_row0 (k := 2) cL_len rfl rfl rfl Tryd.isAgg23 (by first | assumption | omega) rfl | exact ld_row (k := 3) cL_len rfl rfl rfl Tryd.isAgg23 (by first | assumption | omega) rfl | exact ld_row0 (k := 3) cL_len rfl rfl rfl Tryd.isAgg23 (by first | assumption | omega) rfl | exact ld_i Tryd.isAgg23 rfl | exact ld_tab (List.mem_cons_self) Tryd.isAgg23 (fitsC_off (by omega) (by omega) (by omega) (by omega)) | exact ld_tab (List.mem_cons_of_mem _ List.mem_cons_self) Tryd.isAgg23 (joinsC_off (by omega) (by omega) (by omega) (by omega)))) ?_
                refine AD.one (i := 7) (by kernel_rfl) ?_
                refine AStep.call rfl (wants_plain rfl) rfl rfl rfl Tryd.call33 (deleteFunc_vc _ queue _ _ Sq [⟨b3, 3, 1, [.v (.int .i64 t)]⟩] 32 [.v (.pointer (some ⟨b3, 0, none⟩))] (fun x => x.t == t) hoq (by omega) Tryd.call32 (fun y => leave1_vc _ t y b3) rfl) ⟨ot, ot, trivial⟩ (R := [⟨b9, 25, 2, [.v (.slice ah held.length ch), .v (.slice aq queue.length cq)]⟩, ⟨b4, 25, 2, [.v (.slice none 0 0), .v (.slice none 0 0)]⟩, ⟨b2, 25, 2, [locksD held, locksD queue]⟩] ++ Sd32) (perm_cnt fun f__ => by simp only [St.put, List.map_append, List.map_cons, List.map_nil, List.sum_append, List.sum_cons, List.sum_nil] at *; omega) (fun b hb => by cases hb) ?_
                rintro _ S36 ⟨ad36, cp36, Sd36, rfl, hd36, hS36⟩
                refine AD.perm (S' := ⟨b9, 25, 2, [.v (.slice ah held.length ch), .v (.slice aq queue.length cq)]⟩ :: ⟨b4, 25, 2, [.v (.slice none 0 0), .v (.slice none 0 0)]⟩ :: ⟨b3, 3, 1, [.v (.int .i64 t)]⟩ :: ⟨b2, 25, 2, [locksD held, locksD queue]⟩ :: (Sd36 ++ Sd32)) (perm_cnt fun f__ => by have := perm_sum hS36 f__; simp only [St.put, List.map_append, List.map_cons, List.map_nil, List.sum_append, List.sum_cons, List.sum_nil] at *; omega) ?_
                refine AD.take (i := 8) rfl (by kernel_rfl) (by kernel_rfl) (by kernel_rfl) (by repeat (first | exact NP.norm | exact NP.body | apply NP.then | apply NP.cut | apply NP.inBlock | apply NP.round)) (wants_plain rfl) rfl (still_r1 (mk := fun y => Op.fieldAddr 25 y 0) rfl ot (by first | exact fa_ptr (off := 0) Tryd.runUnderlying25 rfl Tryd.sizeOf23 rfl | exact fa_iptr (off := 0) Tryd.runUnderlying25 rfl Tryd.sizeOf23 rfl)) (by exact trivial) (by intro h; cases h) ?_
                refine AD.one (i := 9) (by kernel_rfl) ?_
                refine AStep.store (k := 0) (cs' := [_, _]) rfl (wants_plain rfl) rfl rfl ot rfl rfl ot rfl rfl Tryd.sizeOf23 rfl rfl rfl (by intro b hb; simp [bks, St.put] at hb ⊢; try first | exact hb | simp [hb] | (rcases hb with hb | hb <;> simp [hb]) | (rcases hb with hb | hb | hb <;> simp [hb])) ?_
                refine AD.take (i := 10) rfl (by kernel_rfl) (by kernel_rfl) (by kernel_rfl) (by repeat (first | exact NP.norm | exact NP.body | apply NP.then | apply NP.cut | apply NP.inBlock | apply NP.round)) (wants_plain rfl) rfl (still_r1 (mk := fun y => Op.fieldAddr 25 y 1) rfl ot (by first | exact fa_ptr (off := 1) Tryd.runUnderlying25 rfl Tryd.sizeOf23 rfl | exact fa_iptr (off := 1) Tryd.runUnderlying25 rfl Tryd.sizeOf23 rfl)) (by exact trivial) (by intro h; cases h) ?_
                refine AD.one (i := 11) (by kernel_rfl) ?_
                refine AStep.store (k := 0) (cs' := [_, _]) rfl (wants_plain rfl) rfl rfl ot rfl rfl ot rfl rfl Tryd.sizeOf23 rfl rfl rfl (by intro b hb; simp [bks, St.put] at hb ⊢; try first | exact hb | simp [hb] | (rcases hb with hb | hb <;> simp [hb]) | (rcases hb with hb | hb | hb <;> simp [hb])) ?_
                refine AD.wk (y := ⟨72, [(4, _), (9, _)], (⟨b9, 25, 2, [_, _]⟩ :: ⟨b4, 25, 2, [_, _]⟩ :: ⟨b3, 3, 1, [_]⟩ :: ⟨b2, 25, 2, [_, _]⟩ :: (Sd36 ++ Sd32))⟩) (Wk.as_ rfl rfl ⟨lk, lk, trivial⟩) rfl ?_
                refine AD.done (by kernel_rfl) ?_
                exact ⟨rfl, _, _, _, _, _, _, hd32, hd36, Wk.refl _⟩
              · skip
                refine AStep.still rfl (wants_plain rfl) rfl (still_r1 (mk := Op.load 23) rfl ot (by first | exact ld_blk (k := 0) rfl rfl Tryd.isAgg23 rfl | exact ld_fm cL_len Tryd.isAgg23 (by first | assumption | omega) rfl | exact ld_fm0 cL_len Tryd.isAgg23 (by first | assumption | omega) rfl | exact ld_row (k := 0) cL_len rfl rfl rfl Tryd.isAgg23 (by first | assumption | omega) rfl | exact ld_row0 (k := 0) cL_len rfl rfl rfl Tryd.isAgg23 (by first | assumption | omega) rfl | exact ld_row (k := 1) cL_len rfl rfl rfl Tryd.isAgg23 (by first | assumption | omega) rfl | exact ld_row0 (k := 1) cL_len rfl rfl rfl Tryd.isAgg23 (by first | assumption | omega) rfl | exact ld_row (k := 2) cL_len rfl rfl rfl Tryd.isAgg23 (by first | assumption | omega) rfl | exact ld_row0 (k := 2) cL_len rfl rfl rfl Tryd.isAgg23 (by first | assumption | omega) rfl | exact ld_row (k := 3) cL_len rfl rfl rfl Tryd.isAgg23 (by first | assumption | omega) rfl | exact ld_row0 (k := 3) cL_len rfl rfl rfl Tryd.isAgg23 (by first | assumption | omega) rfl | exact ld_i Tryd.isAgg23 rfl | exact ld_tab (List.mem_cons_self) Tryd.isAgg23 (fitsC_off (by omega) (by omega) (by omega) (by omega)) | exact ld_tab (List.mem_cons_of_mem _ List.mem_cons_self) Tryd.isAgg23 (joinsC_off (by omega) (by omega) (by omega) (by omega)))) ?_
                refine AD.one (i := 3) (by kernel_rfl) ?_
                refine AStep.call rfl (wants_plain rfl) rfl rfl rfl Tryd.call33 (deleteFunc_vc _ held _ _ Sh [⟨b3, 3, 1, [.v (.int .i64 t)]⟩] 32 [.v (.pointer (some ⟨b3, 0, none⟩))] (fun x => x.t == t) hoh (by omega) Tryd.call32 (fun y => leave1_vc _ t y b3) rfl) ⟨ot, ot, trivial⟩ (R := [⟨b9, 25, 2, [.v (.slice ah held.length ch), .v (.slice aq queue.length cq)]⟩, ⟨b4, 25, 2, [.v (.slice none 0 0), .v (.slice none 0 0)]⟩, ⟨b2, 25, 2, [locksD held, locksD queue]⟩] ++ Sq) (perm_cnt fun f__ => by simp only [St.put, List.map_append, List.map_cons, List.map_nil, List.sum_append, List.sum_cons, List.sum_nil] at *; omega) (fun b hb => by cases hb) ?_
                rintro _ S32 ⟨ad32, cp32, Sd32, rfl, hd32, hS32⟩
                refine AD.perm (S' := ⟨b9, 25, 2, [.v (.slice ah held.length ch), .v (.slice aq queue.length cq)]⟩ :: ⟨b4, 25, 2, [.v (.slice none 0 0), .v (.slice none 0 0)]⟩ :: ⟨b3, 3, 1, [.v (.int .i64 t)]⟩ :: ⟨b2, 25, 2, [locksD held, locksD queue]⟩ :: (Sq ++ Sd32)) (perm_cnt fun f__ => by have := perm_sum hS32 f__; simp only [St.put, List.map_append, List.map_cons, List.map_nil, List.sum_append, List.sum_cons, List.sum_nil] at *; omega) ?_
                refine AD.one (i := 7) (by kernel_rfl) ?_
                refine AStep.call rfl (wants_plain rfl) rfl rfl rfl Tryd.call33 (deleteFunc_vc _ queue _ _ Sq [⟨b3, 3, 1, [.v (.int .i64 t)]⟩] 32 [.v (.pointer (some ⟨b3, 0, none⟩))] (fun x => x.t == t) hoq (by omega) Tryd.call32 (fun y => leave1_vc _ t y b3) rfl) ⟨ot, ot, trivial⟩ (R := [⟨b9, 25, 2, [.v (.slice ah held.length ch), .v (.slice aq queue.length cq)]⟩, ⟨b4, 25, 2, [.v (.slice none 0 0), .v (.slice none 0 0)]⟩, ⟨b2, 25, 2, [locksD held, locksD queue]⟩] ++ Sd32) (perm_cnt fun f__ => by simp only [St.put, List.map_append, List.map_cons, List.map_nil, List.sum_append, List.sum_cons, List.sum_nil] at *; omega) (fun b hb => by cases hb) ?_
                rintro _ S36 ⟨ad36, cp36, Sd36, rfl, hd36, hS36⟩
                refine AD.perm (S' := ⟨b9, 25, 2, [.v (.slice ah held.length ch), .v (.slice aq queue.length cq)]⟩ :: ⟨b4, 25, 2, [.v (.slice none 0 0), .v (.slice none 0 0)]⟩ :: ⟨b3, 3, 1, [.v (.int .i64 t)]⟩ :: ⟨b2, 25, 2, [locksD held, locksD queue]⟩ :: (Sd36 ++ Sd32)) (perm_cnt fun f__ => by have := perm_sum hS36 f__; simp only [St.put, List.map_append, List.map_cons, List.map_nil, List.sum_append, List.sum_cons, List.sum_nil] at *; omega) ?_
                refine AD.take (i := 8) rfl (by kernel_rfl) (by kernel_rfl) (by kernel_rfl) (by repeat (first | exact NP.norm | exact NP.body | apply NP.then | apply NP.cut | apply NP.inBlock | apply NP.round)) (wants_plain rfl) rfl (still_r1 (mk := fun y => Op.fieldAddr 25 y 0) rfl ot (by first | exact fa_ptr (off := 0) Tryd.runUnderlying25 rfl Tryd.sizeOf23 rfl | exact fa_iptr (off := 0) Tryd.runUnderlying25 rfl Tryd.sizeOf23 rfl)) (by exact trivial) (by intro h; cases h) ?_
                refine AD.one (i := 9) (by kernel_rfl) ?_
                refine AStep.store (k := 0) (cs' := [_, _]) rfl (wants_plain rfl) rfl rfl ot rfl rfl ot rfl rfl Tryd.sizeOf23 rfl rfl rfl (by intro b hb; simp [bks, St.put] at hb ⊢; try first | exact hb | simp [hb] | (rcases hb with hb | hb <;> simp [hb]) | (rcases hb with hb | hb | hb <;> simp [hb])) ?_
                refine AD.take (i := 10) rfl (by kernel_rfl) (by kernel_rfl) (by kernel_rfl) (by repeat (first | exact NP.norm | exact NP.body | apply NP.then | apply NP.cut | apply NP.inBlock | apply NP.round)) (wants_plain rfl) rfl (still_r1 (mk := fun y => Op.fieldAddr 25 y 1) rfl ot (by first | exact fa_ptr (off := 1) Tryd.runUnderlying25 rfl Tryd.sizeOf23 rfl | exact fa_iptr (off := 1) Tryd.runUnderlying25 rfl Tryd.sizeOf23 rfl)) (by exact trivial) (by intro h; cases h) ?_
                refine AD.one (i := 11) (by kernel_rfl) ?_
                refine AStep.store (k := 0) (cs' := [_, _]) rfl (wants_plain rfl) rfl rfl ot rfl rfl ot rfl rfl Tryd.sizeOf23 rfl rfl rfl (by intro b hb; simp [bks, St.put] at hb ⊢; try first | exact hb | simp [hb] | (rcases hb with hb | hb <;> simp [hb]) | (rcases hb with hb | hb | hb <;> simp [hb])) ?_
                refine AD.wk (y := ⟨72, [(4, _), (9, _)], (⟨b9, 25, 2, [_, _]⟩ :: ⟨b4, 25, 2, [_, _]⟩ :: ⟨b3, 3, 1, [_]⟩ :: ⟨b2, 25, 2, [_, _]⟩ :: (Sd36 ++ Sd32))⟩) (Wk.as_ rfl rfl ⟨lk, lk, trivial⟩) rfl ?_
                refine AD.done (by kernel_rfl) ?_
                exact ⟨rfl, _, _, _, _, _, _, hd32, hd36, Wk.refl _⟩
            · skip
              refine AStep.still rfl (wants_plain rfl) rfl (still_r1 (mk := Op.load 23) rfl ot (by first | exact ld_blk (k := 0) rfl rfl Tryd.isAgg23 rfl | exact ld_fm cL_len Tryd.isAgg23 (by first | assumption | omega) rfl | exact ld_fm0 cL_len Tryd.isAgg23 (by first | assumption | omega) rfl | exact ld_row (k := 0) cL_len rfl rfl rfl Tryd.isAgg23 (by first | assumption | omega) rfl | exact ld_row0 (k := 0) cL_len rfl rfl rfl Tryd.isAgg23 (by first | assumption | omega) rfl | exact ld_row (k := 1) cL_len rfl rfl rfl Tryd.isAgg23 (by first | assumption | omega) rfl | exact ld_row0 (k := 1) cL_len rfl rfl rfl Tryd.isAgg23 (by first | assumption | omega) rfl | exact ld_row (k := 2) cL_len rfl rfl rfl Tryd.isAgg23 (by first | assumption | omega) rfl | exact ld_row0 (k := 2) cL_len rfl rfl rfl Tryd.isAgg23 (by first | assumption | omega) rfl | exact ld_row (k := 3) cL_len rfl rfl rfl Tryd.isAgg23 (by first | assumption | omega) rfl | exact ld_row0 (k := 3) cL_len rfl rfl rfl Tryd.isAgg23 (by first | assumption | omega) rfl | exact ld_i Tryd.isAgg23 rfl | exact ld_tab (List.mem_cons_self) Tryd.isAgg23 (fitsC_off (by omega) (by omega) (by omega) (by omega)) | exact ld_tab (List.mem_cons_of_mem _ List.mem_cons_self) Tryd.isAgg23 (joinsC_off (by omega) (by omega) (by omega) (by omega)))) ?_
              refine AD.one (i := 1) (by kernel_rfl) ?_
              refine AStep.still rfl (wants_plain rfl) rfl (still_r1 (mk := Op.load 23) rfl ot (by first | exact ld_blk (k := 0) rfl rfl Tryd.isAgg23 rfl | exact ld_fm cL_len Tryd.isAgg23 (by first | assumption | omega) rfl | exact ld_fm0 cL_len Tryd.isAgg23 (by first | assumption | omega) rfl | exact ld_row (k := 0) cL_len rfl rfl rfl Tryd.isAgg23 (by first | assumption | omega) rfl | exact ld_row0 (k := 0) cL_len rfl rfl rfl Tryd.isAgg23 (by first | assumption | omega) rfl | exact ld_row (k := 1) cL_len rfl rfl rfl Tryd.isAgg23 (by first | assumption | omega) rfl | exact ld_row0 (k := 1) cL_len rfl rfl rfl Tryd.isAgg23 (by first | assumption | omega) rfl | exact ld_row (k := 2) cL_len rfl rfl rfl Tryd.isAgg23 (by first | assumption | omega) rfl | exact ld_row0 (k := 2) cL_len rfl rfl rfl Tryd.isAgg23 (by first | assumption | omega) rfl | exact ld_row (k := 3) cL_len rfl rfl rfl Tryd.isAgg23 (by first | assumption | omega) rfl | exact ld_row0 (k := 3) cL_len rfl rfl rfl Tryd.isAgg23 (by first | assumption | omega) rfl | exact ld_i Tryd.isAgg23 rfl | exact ld_tab (List.mem_cons_self) Tryd.isAgg23 (fitsC_off (by omega) (by omega) (by omega) (by omega)) | exact ld_tab (List.mem_cons_of_mem _ List.mem_cons_self) Tryd.isAgg23 (joinsC_off (by omega) (by omega) (by omega) (by omega)))) ?_
              refine AD.one (i := 3) (by kernel_rfl) ?_
              refine AStep.call rfl (wants_plain rfl) rfl rfl rfl Tryd.call33 (deleteFunc_vc _ held _ _ Sh [⟨b3, 3, 1, [.v (.int .i64 t)]⟩] 32 [.v (.pointer (some ⟨b3, 0, none⟩))] (fun x => x.t == t) hoh (by omega) Tryd.call32 (fun y => leave1_vc _ t y b3) rfl) ⟨ot, ot, trivial⟩ (R := [⟨b9, 25, 2, [.v (.slice ah held.length ch), .v (.slice aq queue.length cq)]⟩, ⟨b4, 25, 2, [.v (.slice none 0 0), .v (.slice none 0 0)]⟩, ⟨b2, 25, 2, [locksD held, locksD queue]⟩] ++ Sq) (perm_cnt fun f__ => by simp only [St.put, List.map_append, List.map_cons, List.map_nil, List.sum_append, List.sum_cons, List.sum_nil] at *; omega) (fun b hb => by cases hb) ?_
              rintro _ S32 ⟨ad32, cp32, Sd32, rfl, hd32, hS32⟩
              refine AD.perm (S' := ⟨b9, 25, 2, [.v (.slice ah held.length ch), .v (.slice aq queue.length cq)]⟩ :: ⟨b4, 25, 2, [.v (.slice none 0 0), .v (.slice none 0 0)]⟩ :: ⟨b3, 3, 1, [.v (.int .i64 t)]⟩ :: ⟨b2, 25, 2, [locksD held, locksD queue]⟩ :: (Sq ++ Sd32)) (perm_cnt fun f__ => by have := perm_sum hS32 f__; simp only [St.put, List.map_append, List.map_cons, List.map_nil, List.sum_append, List.sum_cons, List.sum_nil] at *; omega) ?_
              refine AD.one (i := 7) (by kernel_rfl) ?_
              refine AStep.call rfl (wants_plain rfl) rfl rfl rfl Tryd.call33 (deleteFunc_vc _ queue _ _ Sq [⟨b3, 3, 1, [.v (.int .i64 t)]⟩] 32 [.v (.pointer (some ⟨b3, 0, none⟩))] (fun x => x.t == t) hoq (by omega) Tryd.call32 (fun y => leave1_vc _ t y b3) rfl) ⟨ot, ot, trivial⟩ (R := [⟨b9, 25, 2, [.v (.slice ah held.length ch), .v (.slice aq queue.length cq)]⟩, ⟨b4, 25, 2, [.v (.slice none 0 0), .v (.slice none 0 0)]⟩, ⟨b2, 25, 2, [locksD held, locksD queue]⟩] ++ Sd32) (perm_cnt fun f__ => by simp only [St.put, List.map_append, List.map_cons, List.map_nil, List.sum_append, List.sum_cons, List.sum_nil] at *; omega) (fun b hb => by cases hb) ?_
              rintro _ S36 ⟨ad36, cp36, Sd36, rfl, hd36, hS36⟩
              refine AD.perm (S' := ⟨b9, 25, 2, [.v (.slice ah held.length ch), .v (.slice aq queue.length cq)]⟩ :: ⟨b4, 25, 2, [.v (.slice none 0 0), .v (.slice none 0 0)]⟩ :: ⟨b3, 3, 1, [.v (.int .i64 t)]⟩ :: ⟨b2, 25, 2, [locksD held, locksD queue]⟩ :: (Sd36 ++ Sd32)) (perm_cnt fun f__ => by have := perm_sum hS36 f__; simp only [St.put, List.map_append, List.map_cons, List.map_nil, List.sum_append, List.sum_cons, List.sum_nil] at *; omega) ?_
              refine AD.take (i := 8) rfl (by kernel_rfl) (by kernel_rfl) (by kernel_rfl) (by repeat (first | exact NP.norm | exact NP.body | apply NP.then | apply NP.cut | apply NP.inBlock | apply NP.round)) (wants_plain rfl) rfl (still_r1 (mk := fun y => Op.fieldAddr 25 y 0) rfl ot (by first | exact fa_ptr (off := 0) Tryd.runUnderlying25 rfl Tryd.sizeOf23 rfl | exact fa_iptr (off := 0) Tryd.runUnderlying25 rfl Tryd.sizeOf23 rfl)) (by exact trivial) (by intro h; cases h) ?_
              refine AD.one (i := 9) (by kernel_rfl) ?_
              refine AStep.store (k := 0) (cs' := [_, _]) rfl (wants_plain rfl) rfl rfl ot rfl rfl ot rfl rfl Tryd.sizeOf23 rfl rfl rfl (by intro b hb; simp [bks, St.put] at hb ⊢; try first | exact hb | simp [hb] | (rcases hb with hb | hb <;> simp [hb]) | (rcases hb with hb | hb | hb <;> simp [hb])) ?_
              refine AD.take (i := 10) rfl (by kernel_rfl) (by kernel_rfl) (by kernel_rfl) (by repeat (first | exact NP.norm | exact NP.body | apply NP.then | apply NP.cut | apply NP.inBlock | apply NP.round)) (wants_plain rfl) rfl (still_r1 (mk := fun y => Op.fieldAddr 25 y 1) rfl ot (by first | exact fa_ptr (off := 1) Tryd.runUnderlying25 rfl Tryd.sizeOf23 rfl | exact fa_iptr (off := 1) Tryd.runUnderlying25 rfl Tryd.sizeOf23 rfl)) (by exact trivial) (by intro h; cases h) ?_
              refine AD.one (i := 11) (by kernel_rfl) ?_
              refine AStep.store (k := 0) (cs' := [_, _]) rfl (wants_plain rfl) rfl rfl ot rfl rfl ot rfl rfl Tryd.sizeOf23 rfl rfl rfl (by intro b hb; simp [bks, St.put] at hb ⊢; try first | exact hb | simp [hb] | (rcases hb with hb | hb <;> simp [hb]) | (rcases hb with hb | hb | hb <;> simp [hb])) ?_
              refine AD.wk (y := ⟨72, [(4, _), (9, _)], (⟨b9, 25, 2, [_, _]⟩ :: ⟨b4, 25, 2, [_, _]⟩ :: ⟨b3, 3, 1, [_]⟩ :: ⟨b2, 25, 2, [_, _]⟩ :: (Sd36 ++ Sd32))⟩) (Wk.as_ rfl rfl ⟨lk, lk, trivial⟩) rfl ?_
              refine AD.done (by kernel_rfl) ?_
              exact ⟨rfl, _, _, _, _, _, _, hd32, hd36, Wk.refl _⟩
          · skip
            rintro _ _ ⟨rfl, ah1, ch1, Sh1, aq1, cq1, Sq1, hoh1, hoq1, hwk__⟩
            refine CD.wk hwk__ ?_
            refine CD.seq ?_
            refine CD.region ?_
            refine OD.still (wants_plain rfl) rfl (still_as rfl opd_const) ?_
            refine OD.wk (Wk.as_ (n := 72) (l' := [(4, _), (9, _), (10, _)]) (S' := (⟨b9, 25, 2, [_, _]⟩ :: ⟨b4, 25, 2, [_, _]⟩ :: ⟨b3, 3, 1, [_]⟩ :: ⟨b2, 25, 2, [_, _]⟩ :: (Sq1 ++ Sh1))) rfl rfl ⟨lk, lk, lk, trivial⟩) ?_
            refine OD.nil ?_
            refine CD.seq ?_
            refine CD.seq ?_
            refine CD.region ?_
            refine OD.still (wants_plain rfl) rfl (still_as rfl opd_const) ?_
            refine OD.wk (Wk.as_ (n := 72) (l' := [(4, _), (9, _), (10, _), (11, _)]) (S' := (⟨b9, 25, 2, [_, _]⟩ :: ⟨b4, 25, 2, [_, _]⟩ :: ⟨b3, 3, 1, [_]⟩ :: ⟨b2, 25, 2, [_, _]⟩ :: (Sq1 ++ Sh1))) rfl rfl ⟨lk, lk, lk, lk, trivial⟩) ?_
            refine OD.nil ?_
            refine CD.block ?_
            refine CD.wk (Wk.asS (n := 72) (l' := [(4, .v (.pointer (some ⟨b4, 0, none⟩))), (9, .v (.pointer (some ⟨b9, 0, none⟩))), (10, .v (.slice none ([]).length (0))), (11, .v (.int .i64 ((0) : Nat)))]) (S' := (⟨b9, 25, 2, [.v (.slice ah1 ((held.filter (fun x => !(x.t == t)))).length ch1), .v (.slice aq1 ((queue.filter (fun x => !(x.t == t)))).length cq1)]⟩ :: ⟨b4, 25, 2, [.v (.slice none 0 0), .v (.slice none 0 0)]⟩ :: (Sq1 ++ (Sh1 ++ ([]))))) rfl (by simp) ⟨(by (repeat (first | exact look_hit | (apply look_at; focus (first | rfl | (simp; done) | (congr 2; omega))) | (apply look_miss; focus rfl))); done), (by (repeat (first | exact look_hit | (apply look_at; focus (first | rfl | (simp; done) | (congr 2; omega))) | (apply look_miss; focus rfl))); done), (by (repeat (first | exact look_hit | (apply look_at; focus (first | rfl | (simp; done) | (congr 2; omega))) | (apply look_miss; focus rfl))); done), (by (repeat (first | exact look_hit | (apply look_at; focus (first | rfl | (simp; done) | (congr 2; omega))) | (apply look_miss; focus rfl))); done), trivial⟩) (CD.loop (fun (gh__ : List L × List L × Nat × List Int × Option Addr × Nat × Option Addr × Nat × Option Addr × Nat × List Blk × List Blk × List Blk) y__ => match gh__ with | (h, q, i, ws, ah, ch, aq, cq, aw, cw, Sh, Sq, Sw) => (OwnK h ah ch Sh) ∧ (OwnK q aq cq Sq) ∧ (OwnI ws aw cw Sw) ∧ (i ≤ q.length) ∧ (wake h q i ws = leaveG held queue t) ∧ (∀ y ∈ h, modeB y.m = true) ∧ (∀ y ∈ q, modeB y.m = true) ∧ (h.length + q.length ≤ 200) ∧ (ws.length + q.length ≤ 200) ∧ y__ = (⟨72, [(4, .v (.pointer (some ⟨b4, 0, none⟩))), (9, .v (.pointer (some ⟨b9, 0, none⟩))), (10, .v (.slice aw ws.length cw)), (11, .v (.int .i64 (i : Nat)))], (⟨b9, 25, 2, [.v (.slice ah h.length ch), .v (.slice aq q.length cq)]⟩ :: ⟨b4, 25, 2, [.v (.slice none 0 0), .v (.slice none 0 0)]⟩ :: (Sq ++ (Sh ++ Sw)))⟩ : St)) (fun (gh__ : List L × List L × Nat × List Int × Option Addr × Nat × Option Addr × Nat × Option Addr × Nat × List Blk × List Blk × List Blk) => match gh__ with | (h, q, i, ws, ah, ch, aq, cq, aw, cw, Sh, Sq, Sw) => q.length * 1000 + (q.length - i)) ((held.filter (fun x => !(x.t == t))), (queue.filter (fun x => !(x.t == t))), 0, [], ah1, ch1, aq1, cq1, none, 0, Sh1, Sq1, []) ⟨hoh1, hoq1, ownI_nil, (Nat.zero_le _), rfl, (fun y hy => g.mode y (List.mem_filter.1 hy).1), (fun y hy => g.modeQ y (List.mem_filter.1 hy).1), (by have := List.length_filter_le (fun x => !(x.t == t)) held; have := List.length_filter_le (fun x => !(x.t == t)) queue; omega), (by have := List.length_filter_le (fun x => !(x.t == t)) queue; simp; omega), rfl⟩ ?_)
            rintro ⟨h, q, i, ws, ah, ch, aq, cq, aw, cw, Sh, Sq, Sw⟩ _ ⟨hoh, hoq, how, hil, hwk, hmh, hmq, hn, hwn, rfl⟩
            refine CD.seq ?_
            refine CD.seq ?_
            refine CD.region ?_
            refine OD.still (wants_plain rfl) rfl (still_mv rfl ot) ?_
            refine OD.still (wants_plain rfl) rfl (still_r1 (mk := fun y => Op.fieldAddr 25 y 1) rfl ot (by first | exact fa_ptr (off := 1) Tryd.runUnderlying25 rfl Tryd.sizeOf23 rfl | exact fa_iptr (off := 1) Tryd.runUnderlying25 rfl Tryd.sizeOf23 rfl)) ?_
            refine OD.still (wants_plain rfl) rfl (still_r1 (mk := Op.load 23) rfl ot (by first | exact ld_blk (k := 0) rfl rfl Tryd.isAgg23 rfl | exact ld_fm cL_len Tryd.isAgg23 (by first | assumption | omega) rfl | exact ld_fm0 cL_len Tryd.isAgg23 (by first | assumption | omega) rfl | exact ld_row (k := 0) cL_len rfl rfl rfl Tryd.isAgg23 (by first | assumption | omega) rfl | exact ld_row0 (k := 0) cL_len rfl rfl rfl Tryd.isAgg23 (by first | assumption | omega) rfl | exact ld_row (k := 1) cL_len rfl rfl rfl Tryd.isAgg23 (by first | assumption | omega) rfl | exact ld_row0 (k := 1) cL_len rfl rfl rfl Tryd.isAgg23 (by first | assumption | omega) rfl | exact ld_i Tryd.isAgg23 rfl | exact ld_tab (List.mem_cons_self) Tryd.isAgg23 (fitsC_off (by omega) (by omega) (by omega) (by omega)) | exact ld_tab (List.mem_cons_of_mem _ List.mem_cons_self) Tryd.isAgg23 (joinsC_off (by omega) (by omega) (by omega) (by omega)))) ?_
            refine OD.still (wants_plain rfl) rfl (still_r1 (mk := fun y => .call { callee := .builtin .len, args := #[y], argTypes := #[23] }) rfl ot (by first | exact len_list rfl Tryd.runUnderlying23 | exact len_row rfl Tryd.runUnderlying23)) ?_
            refine OD.still (wants_plain rfl) rfl (still_bin rfl ot ot bin_lss) ?_
            refine OD.wk (Wk.as_ (n := 72) (l' := [(4, _), (9, _), (10, _), (11, _), (43, _)]) (S' := (⟨b9, 25, 2, [_, _]⟩ :: ⟨b4, 25, 2, [_, _]⟩ :: (Sq ++ (Sh ++ Sw)))) rfl rfl ⟨lk, lk, lk, lk, lk, trivial⟩) ?_
            refine OD.nil ?_
            refine CD.cond ot (fun hc2 => ?_) (fun hc2 => ?_)
            · have hc2' := hc2
              (try simp only [decide_eq_true_eq, decide_eq_false_iff_not, beq_iff_eq, bne_iff_ne, Bool.not_eq_true', Bool.not_eq_false', Bool.not_eq_true, Bool.not_eq_false, beq_eq_false_iff_ne, ne_eq, bne_eq_false_iff_eq, Bool.and_eq_true, Bool.or_eq_true, Bool.not_not, Bool.and_eq_false_iff, Bool.or_eq_false_iff, Int.not_lt, Int.not_le] at hc2')
              have hlt : i < q.length := by omega
              refine CD.skip ?_
              refine CD.block ?_
              refine CD.seq ?_
              refine CD.seq ?_
              refine CD.region ?_
              refine OD.still (wants_plain rfl) rfl (still_r1 (mk := Op.load 25) rfl ot (by first | exact ld_blks (k := 0) (ds := [_, _]) rfl rfl Tryd.isAgg25 Tryd.sizeOf25 rfl rfl | exact ld_fms cL_len Tryd.isAgg25 Tryd.sizeOf25 (by first | assumption | omega) | exact ld_rows (k := 0) cL_len rfl rfl rfl Tryd.isAgg25 Tryd.sizeOf25 (by first | assumption | omega) | exact ld_rows (k := 1) cL_len rfl rfl rfl Tryd.isAgg25 Tryd.sizeOf25 (by first | assumption | omega) | exact ld_is (ds := [_, _]) Tryd.isAgg25 Tryd.sizeOf25 rfl rfl)) ?_
              refine OD.still (wants_plain rfl) rfl (still_mv rfl ot) ?_
              refine OD.look (wants_plain rfl) rfl rfl rfl Tryd.call30 (first_vp h q i hlt (by omega) hmh (hmq _ (List.getElem_mem hlt))) rfl ⟨⟨_, ot, view_agg (ds := [_, _]) ⟨view_own hoh (cells_len _) (fun B hB => by simp [St.put, hB]), view_own hoq (cells_len _) (fun B hB => by simp [St.put, hB]), trivial⟩⟩, ⟨_, ot, view_same⟩, trivial⟩ ?_
              refine OD.still (wants_plain rfl) rfl (still_un rfl ot un_not) ?_
              refine OD.wk (Wk.as_ (n := 72) (l' := [(4, _), (9, _), (10, _), (11, _), (47, _)]) (S' := (⟨b9, 25, 2, [_, _]⟩ :: ⟨b4, 25, 2, [_, _]⟩ :: (Sq ++ (Sh ++ Sw)))) rfl rfl ⟨lk, lk, lk, lk, lk, trivial⟩) ?_
              refine OD.nil ?_
              refine CD.cond ot (fun hc3 => ?_) (fun hc3 => ?_)
              · have hc3' := hc3
                (try simp only [decide_eq_true_eq, decide_eq_false_iff_not, beq_iff_eq, bne_iff_ne, Bool.not_eq_true', Bool.not_eq_false', Bool.not_eq_true, Bool.not_eq_false, beq_eq_false_iff_ne, ne_eq, bne_eq_false_iff_eq, Bool.and_eq_true, Bool.or_eq_true, Bool.not_not, Bool.and_eq_false_iff, Bool.or_eq_false_iff, Int.not_lt, Int.not_le] at hc3')
                have hf : firstQ h (q.take i) q[i] = false := by simpa using hc3
                refine CD.seq ?_
                refine CD.region ?_
                refine OD.still (wants_plain rfl) rfl (still_mv rfl ot) ?_
                refine OD.still (wants_plain rfl) rfl (still_bin rfl ot opd_const (bin_add (wrap_i64 (by omega) (by omega)))) ?_
                refine OD.still (wants_plain rfl) rfl (still_as rfl ot) ?_
                refine OD.wk (Wk.as_ (n := 72) (l' := [(4, _), (9, _), (10, _), (11, _)]) (S' := (⟨b9, 25, 2, [_, _]⟩ :: ⟨b4, 25, 2, [_, _]⟩ :: (Sq ++ (Sh ++ Sw)))) rfl rfl ⟨lk, lk, lk, lk, trivial⟩) ?_
                refine OD.nil ?_
                refine CD.exit ?_
                refine ⟨(h, q, (i + 1), ws, ah, ch, aq, cq, aw, cw, Sh, Sq, Sw), ⟨72, [(4, .v (.pointer (some ⟨b4, 0, none⟩))), (9, .v (.pointer (some ⟨b9, 0, none⟩))), (10, .v (.slice aw ws.length cw)), (11, .v (.int .i64 (((i + 1)) : Nat)))], (⟨b9, 25, 2, [.v (.slice ah h.length ch), .v (.slice aq q.length cq)]⟩ :: ⟨b4, 25, 2, [.v (.slice none 0 0), .v (.slice none 0 0)]⟩ :: (Sq ++ (Sh ++ Sw)))⟩, ?_, Wk.asS (n := 72) rfl (by simp) ⟨(by (repeat (first | exact look_hit | (apply look_at; focus (first | rfl | (simp; done) | (congr 2; omega))) | (apply look_miss; focus rfl))); done), (by (repeat (first | exact look_hit | (apply look_at; focus (first | rfl | (simp; done) | (congr 2; omega))) | (apply look_miss; focus rfl))); done), (by (repeat (first | exact look_hit | (apply look_at; focus (first | rfl | (simp; done) | (congr 2; omega))) | (apply look_miss; focus rfl))); done), (by (repeat (first | exact look_hit | (apply look_at; focus (first | rfl | (simp; done) | (congr 2; omega))) | (apply look_miss; focus rfl))); done), trivial⟩, hoh, hoq, how, (by omega), (by rw [← wake_no hlt hf]; exact hwk), hmh, hmq, hn, hwn, rfl⟩
                first | omega | (simp only []; omega) | (simp only [List.length_eraseIdx_of_lt hlt]; omega)
              · have hc3' := hc3
                (try simp only [decide_eq_true_eq, decide_eq_false_iff_not, beq_iff_eq, bne_iff_ne, Bool.not_eq_true', Bool.not_eq_false', Bool.not_eq_true, Bool.not_eq_false, beq_eq_false_iff_ne, ne_eq, bne_eq_false_iff_eq, Bool.and_eq_true, Bool.or_eq_true, Bool.not_not, Bool.and_eq_false_iff, Bool.or_eq_false_iff, Int.not_lt, Int.not_le] at hc3')
                have hf : firstQ h (q.take i) q[i] = true := by simpa using hc3
                rcases hoq with ⟨h0, _⟩ | ⟨bq, rfl, hq1, hq2, rfl⟩
                · omega
                refine CD.skip ?_
                refine CD.seq ?_
                refine CD.region ?_
                refine OD.still (wants_plain rfl) rfl (still_r1 (mk := fun y => Op.fieldAddr 25 y 1) rfl ot (by first | exact fa_ptr (off := 1) Tryd.runUnderlying25 rfl Tryd.sizeOf23 rfl | exact fa_iptr (off := 1) Tryd.runUnderlying25 rfl Tryd.sizeOf23 rfl)) ?_
                refine OD.still (wants_plain rfl) rfl (still_r1 (mk := Op.load 23) rfl ot (by first | exact ld_blk (k := 0) rfl rfl Tryd.isAgg23 rfl | exact ld_fm cL_len Tryd.isAgg23 (by first | assumption | omega) rfl | exact ld_fm0 cL_len Tryd.isAgg23 (by first | assumption | omega) rfl | exact ld_row (k := 0) cL_len rfl rfl rfl Tryd.isAgg23 (by first | assumption | omega) rfl | exact ld_row0 (k := 0) cL_len rfl rfl rfl Tryd.isAgg23 (by first | assumption | omega) rfl | exact ld_row (k := 1) cL_len rfl rfl rfl Tryd.isAgg23 (by first | assumption | omega) rfl | exact ld_row0 (k := 1) cL_len rfl rfl rfl Tryd.isAgg23 (by first | assumption | omega) rfl | exact ld_row (k := 2) cL_len rfl rfl rfl Tryd.isAgg23 (by first | assumption | omega) rfl | exact ld_row0 (k := 2) cL_len rfl rfl rfl Tryd.isAgg23 (by first | assumption | omega) rfl | exact ld_i Tryd.isAgg23 rfl | exact ld_tab (List.mem_cons_self) Tryd.isAgg23 (fitsC_off (by omega) (by omega) (by omega) (by omega)) | exact ld_tab (List.mem_cons_of_mem _ List.mem_cons_self) Tryd.isAgg23 (joinsC_off (by omega) (by omega) (by omega) (by omega)))) ?_
                refine OD.still (wants_plain rfl) rfl (still_mv rfl ot) ?_
                refine OD.still (wants_plain rfl) rfl (still_r2 (mk := Op.indexAddr 23) rfl ot ot (by first | exact ix_list Tryd.runUnderlying23 Tryd.sizeOf27 rfl (by first | assumption | omega) | exact ix_list (j := Int.toNat _) Tryd.runUnderlying23 Tryd.sizeOf27 (Int.toNat_of_nonneg (by omega)).symm (by omega) | exact ix_row Tryd.runUnderlying23 Tryd.sizeOf27 rfl (by first | assumption | omega) | exact ix_row (j := Int.toNat _) Tryd.runUnderlying23 Tryd.sizeOf27 (Int.toNat_of_nonneg (by omega)).symm (by omega))) ?_
                refine OD.still (wants_plain rfl) rfl (still_r1 (mk := Op.load 27) rfl ot (ld_rowB (k := 2) cL_len rfl Tryd.isAgg27 Tryd.sizeOf27 hlt)) ?_
                refine OD.alloc (ds := [_, _, _]) (wants_plain rfl) rfl rfl Tryd.zeroValue27 rfl (fun b12 => ?_)
                refine OD.store (k := 0) (cs' := [_, _, _]) (wants_plain rfl) rfl rfl ot rfl rfl ot rfl rfl Tryd.sizeOf27 rfl rfl rfl ?_
                refine OD.wk (Wk.as_ (n := 72) (l' := [(4, _), (9, _), (10, _), (11, _), (12, _)]) (S' := (⟨b12, 27, 3, [_, _, _]⟩ :: ⟨b9, 25, 2, [_, _]⟩ :: ⟨b4, 25, 2, [_, _]⟩ :: _ :: (Sh ++ Sw))) rfl rfl ⟨lk, lk, lk, lk, lk, trivial⟩) ?_
                refine OD.nil ?_
                refine CD.seq ?_
                refine CD.region ?_
                refine OD.still (wants_plain rfl) rfl (still_r1 (mk := fun y => Op.fieldAddr 25 y 1) rfl ot (by first | exact fa_ptr (off := 1) Tryd.runUnderlying25 rfl Tryd.sizeOf23 rfl | exact fa_iptr (off := 1) Tryd.runUnderlying25 rfl Tryd.sizeOf23 rfl)) ?_
                refine OD.still (wants_plain rfl) rfl (still_r1 (mk := Op.load 23) rfl ot (by first | exact ld_blk (k := 1) rfl rfl Tryd.isAgg23 rfl | exact ld_fm cL_len Tryd.isAgg23 (by first | assumption | omega) rfl | exact ld_fm0 cL_len Tryd.isAgg23 (by first | assumption | omega) rfl | exact ld_row (k := 0) cL_len rfl rfl rfl Tryd.isAgg23 (by first | assumption | omega) rfl | exact ld_row0 (k := 0) cL_len rfl rfl rfl Tryd.isAgg23 (by first | assumption | omega) rfl | exact ld_row (k := 1) cL_len rfl rfl rfl Tryd.isAgg23 (by first | assumption | omega) rfl | exact ld_row0 (k := 1) cL_len rfl rfl rfl Tryd.isAgg23 (by first | assumption | omega) rfl | exact ld_row (k := 2) cL_len rfl rfl rfl Tryd.isAgg23 (by first | assumption | omega) rfl | exact ld_row0 (k := 2) cL_len rfl rfl rfl Tryd.isAgg23 (by first | assumption | omega) rfl | exact ld_row (k := 3) cL_len rfl rfl rfl Tryd.isAgg23 (by first | assumption | omega) rfl | exact ld_row0 (k := 3) cL_len rfl rfl rfl Tryd.isAgg23 (by first | assumption | omega) rfl | exact ld_i Tryd.isAgg23 rfl | exact ld_tab (List.mem_cons_self) Tryd.isAgg23 (fitsC_off (by omega) (by omega) (by omega) (by omega)) | exact ld_tab (List.mem_cons_of_mem _ List.mem_cons_self) Tryd.isAgg23 (joinsC_off (by omega) (by omega) (by omega) (by omega)))) ?_
                refine OD.still (wants_plain rfl) rfl (still_mv rfl ot) ?_
                refine OD.still (wants_plain rfl) rfl (still_mv rfl ot) ?_
                refine OD.still (wants_plain rfl) rfl (still_bin rfl ot opd_const (bin_add (r := ((i + 1 : Nat) : Int)) (by rw [wrap_i64 (by omega) (by omega)]; omega))) ?_
                refine OD.call (wants_plain rfl) rfl rfl rfl Tryd.call34 (delete_vc _ q i cq bq hlt hq1 hq2 (by omega)) ⟨ot, ot, ot, trivial⟩ (perm_one (k := 3) rfl) ?_; rintro _ S2 ⟨rfl, hS2⟩; rw [hS2]; clear hS2
                rw [← List.length_eraseIdx_of_lt hlt]
                refine OD.still (wants_plain rfl) rfl (still_r1 (mk := fun y => Op.fieldAddr 25 y 1) rfl ot (by first | exact fa_ptr (off := 1) Tryd.runUnderlying25 rfl Tryd.sizeOf23 rfl | exact fa_iptr (off := 1) Tryd.runUnderlying25 rfl Tryd.sizeOf23 rfl)) ?_
                refine OD.store (k := 2) (cs' := [_, _]) (wants_plain rfl) rfl rfl ot rfl rfl ot rfl rfl Tryd.sizeOf23 rfl rfl rfl ?_
                refine OD.wk (Wk.as_ (n := 72) (l' := [(4, _), (9, _), (10, _), (12, _)]) (S' := (_ :: ⟨b12, 27, 3, [_, _, _]⟩ :: ⟨b9, 25, 2, [_, _]⟩ :: ⟨b4, 25, 2, [_, _]⟩ :: (Sh ++ Sw))) rfl rfl ⟨lk, lk, lk, lk, trivial⟩) ?_
                refine OD.nil ?_
                refine CD.seq ?_
                refine CD.region ?_
                refine OD.still (wants_plain rfl) rfl (still_r1 (mk := Op.load 27) rfl ot (by first | exact ld_blks (k := 1) (ds := [_, _, _]) rfl rfl Tryd.isAgg27 Tryd.sizeOf27 rfl rfl | exact ld_fms cL_len Tryd.isAgg27 Tryd.sizeOf27 (by first | assumption | omega) | exact ld_rows (k := 0) cL_len rfl rfl rfl Tryd.isAgg27 Tryd.sizeOf27 (by first | assumption | omega) | exact ld_rows (k := 1) cL_len rfl rfl rfl Tryd.isAgg27 Tryd.sizeOf27 (by first | assumption | omega) | exact ld_rows (k := 2) cL_len rfl rfl rfl Tryd.isAgg27 Tryd.sizeOf27 (by first | assumption | omega) | exact ld_rows (k := 3) cL_len rfl rfl rfl Tryd.isAgg27 Tryd.sizeOf27 (by first | assumption | omega) | exact ld_is (ds := [_, _, _]) Tryd.isAgg27 Tryd.sizeOf27 rfl rfl)) ?_
                refine OD.call (wants_plain rfl) rfl rfl rfl Tryd.call31 (have_vc _ b9 ch ah (.v (.slice (some ⟨bq, 0, none⟩) (q.eraseIdx i).length cq)) h q[i] Sh hoh (by omega)) ⟨ot, ot, trivial⟩ (R := [⟨bq, 27, cq * 3, (q.eraseIdx i).flatMap cL⟩, ⟨b12, 27, 3, [.v (.int .i64 q[i].t), .v (.string q[i].th), .v (.int .i64 q[i].m)]⟩, ⟨b4, 25, 2, [.v (.slice none 0 0), .v (.slice none 0 0)]⟩] ++ Sw) (perm_cnt fun f__ => by simp only [St.put, List.map_append, List.map_cons, List.map_nil, List.sum_append, List.sum_cons, List.sum_nil] at *; omega) ?_
                rintro _ S2 ⟨rfl, ah', ch', Sh', hoh', hS2⟩
                refine OD.perm (S' := ⟨b12, 27, 3, [.v (.int .i64 q[i].t), .v (.string q[i].th), .v (.int .i64 q[i].m)]⟩ :: ⟨b9, 25, 2, [.v (.slice ah' (haveL h q[i]).length ch'), .v (.slice (some ⟨bq, 0, none⟩) (q.eraseIdx i).length cq)]⟩ :: ⟨b4, 25, 2, [.v (.slice none 0 0), .v (.slice none 0 0)]⟩ :: ⟨bq, 27, cq * 3, (q.eraseIdx i).flatMap cL⟩ :: (Sh' ++ Sw)) (perm_cnt fun f__ => by have := perm_sum hS2 f__; simp only [St.put, List.map_append, List.map_cons, List.map_nil, List.sum_append, List.sum_cons, List.sum_nil] at *; omega) ?_
                refine OD.wk (Wk.as_ (n := 72) (l' := [(4, _), (9, _), (10, _), (12, _)]) (S' := (⟨b12, 27, 3, [_, _, _]⟩ :: ⟨b9, 25, 2, [_, _]⟩ :: ⟨b4, 25, 2, [_, _]⟩ :: _ :: (Sh' ++ Sw))) rfl rfl ⟨lk, lk, lk, lk, trivial⟩) ?_
                refine OD.nil ?_
                refine CD.seq ?_
                refine CD.region ?_
                refine OD.still (wants_plain rfl) rfl (still_mv rfl ot) ?_
                refine OD.still (wants_plain rfl) rfl (still_r1 (mk := fun y => Op.fieldAddr 27 y 0) rfl ot (by first | exact fa_ptr (off := 0) Tryd.runUnderlying27 rfl Tryd.sizeOf3 rfl | exact fa_iptr (off := 0) Tryd.runUnderlying27 rfl Tryd.sizeOf3 rfl)) ?_
                refine OD.still (wants_plain rfl) rfl (still_r1 (mk := Op.load 3) rfl ot (by first | exact ld_blk (k := 0) rfl rfl Tryd.isAgg3 rfl | exact ld_fm cL_len Tryd.isAgg3 (by first | assumption | omega) rfl | exact ld_fm0 cL_len Tryd.isAgg3 (by first | assumption | omega) rfl | exact ld_row (k := 0) cL_len rfl rfl rfl Tryd.isAgg3 (by first | assumption | omega) rfl | exact ld_row0 (k := 0) cL_len rfl rfl rfl Tryd.isAgg3 (by first | assumption | omega) rfl | exact ld_row (k := 1) cL_len rfl rfl rfl Tryd.isAgg3 (by first | assumption | omega) rfl | exact ld_row0 (k := 1) cL_len rfl rfl rfl Tryd.isAgg3 (by first | assumption | omega) rfl | exact ld_row (k := 2) cL_len rfl rfl rfl Tryd.isAgg3 (by first | assumption | omega) rfl | exact ld_row0 (k := 2) cL_len rfl rfl rfl Tryd.isAgg3 (by first | assumption | omega) rfl | exact ld_row (k := 3) cL_len rfl rfl rfl Tryd.isAgg3 (by first | assumption | omega) rfl | exact ld_row0 (k := 3) cL_len rfl rfl rfl Tryd.isAgg3 (by first | assumption | omega) rfl | exact ld_i Tryd.isAgg3 rfl | exact ld_tab (List.mem_cons_self) Tryd.isAgg3 (fitsC_off (by omega) (by omega) (by omega) (by omega)) | exact ld_tab (List.mem_cons_of_mem _ List.mem_cons_self) Tryd.isAgg3 (joinsC_off (by omega) (by omega) (by omega) (by omega)))) ?_
                refine OD.bldS (pl := [(0, _)]) (zvs := [.int .i64 0]) (ds := [_]) (wants_plain rfl) rfl rfl Tryd.zeroValue3 Tryd.runUnderlying34 Tryd.sizeOf3 rfl rfl (by kernel_rfl) ⟨rfl, ot, trivial⟩ rfl rfl (fun b67 => ?_)
                refine OD.give (k := 0) (t := 67) (sz := 1) (m := 1) rfl lk rfl rfl rfl (Nat.le_refl _) (by decide) ?_
                refine OD.appendG (ls := ws) (new := [q[i].t]) (Sq := Sw) cI_len cI_one (wants_plain rfl) rfl rfl Tryd.underlying34 infoI rfl (by decide) ot how (List.perm_append_comm (l₁ := _ :: _ :: _ :: _ :: Sh')) ot (by simp) (by unfold maxLen; simp; omega) (by simp; omega) (fun bw cw2 hw1 hw2 => ?_)
                refine OD.perm (S' := ⟨b12, 27, 3, [.v (.int .i64 q[i].t), .v (.string q[i].th), .v (.int .i64 q[i].m)]⟩ :: ⟨b9, 25, 2, [.v (.slice ah' (haveL h q[i]).length ch'), .v (.slice (some ⟨bq, 0, none⟩) (q.eraseIdx i).length cq)]⟩ :: ⟨b4, 25, 2, [.v (.slice none 0 0), .v (.slice none 0 0)]⟩ :: ⟨bq, 27, cq * 3, (q.eraseIdx i).flatMap cL⟩ :: (Sh' ++ [⟨bw, 3, cw2 * 1, (ws ++ [q[i].t]).flatMap cI⟩])) (perm_cnt fun f__ => by simp only [St.put, List.map_append, List.map_cons, List.map_nil, List.sum_append, List.sum_cons, List.sum_nil] at *; omega) ?_
                refine OD.still (wants_plain rfl) rfl (still_as rfl ot) ?_
                refine OD.wk (Wk.as_ (n := 72) (l' := [(4, _), (9, _), (10, _)]) (S' := (⟨b12, 27, 3, [_, _, _]⟩ :: ⟨b9, 25, 2, [_, _]⟩ :: ⟨b4, 25, 2, [_, _]⟩ :: _ :: (Sh' ++ [_]))) rfl rfl ⟨lk, lk, lk, trivial⟩) ?_
                refine OD.nil ?_
                refine CD.region ?_
                refine OD.still (wants_plain rfl) rfl (still_as rfl opd_const) ?_
                refine OD.wk (Wk.as_ (n := 72) (l' := [(4, _), (9, _), (10, _), (11, _)]) (S' := (⟨b12, 27, 3, [_, _, _]⟩ :: ⟨b9, 25, 2, [_, _]⟩ :: ⟨b4, 25, 2, [_, _]⟩ :: _ :: (Sh' ++ [_]))) rfl rfl ⟨lk, lk, lk, lk, trivial⟩) ?_
                refine OD.nil ?_
                refine ⟨((haveL h q[i]), (q.eraseIdx i), 0, (ws ++ [q[i].t]), ah', ch', (some ⟨bq, 0, none⟩), cq, (some ⟨bw, 0, none⟩), cw2, Sh', [⟨bq, 27, cq * 3, (q.eraseIdx i).flatMap cL⟩], [⟨bw, 3, cw2 * 1, (ws ++ [q[i].t]).flatMap cI⟩]), ⟨72, [(4, .v (.pointer (some ⟨b4, 0, none⟩))), (9, .v (.pointer (some ⟨b9, 0, none⟩))), (10, .v (.slice ((some ⟨bw, 0, none⟩)) ((ws ++ [q[i].t])).length cw2)), (11, .v (.int .i64 ((0) : Nat)))], (⟨b9, 25, 2, [.v (.slice (ah') ((haveL h q[i])).length (ch')), .v (.slice ((some ⟨bq, 0, none⟩)) ((q.eraseIdx i)).length cq)]⟩ :: ⟨b4, 25, 2, [.v (.slice none 0 0), .v (.slice none 0 0)]⟩ :: (([⟨bq, 27, cq * 3, (q.eraseIdx i).flatMap cL⟩]) ++ ((Sh') ++ ([⟨bw, 3, cw2 * 1, (ws ++ [q[i].t]).flatMap cI⟩]))))⟩, ?_, Wk.asS (n := 72) rfl (by simp) ⟨(by (repeat (first | exact look_hit | (apply look_at; focus (first | rfl | (simp; done) | (congr 2; omega))) | (apply look_miss; focus rfl))); done), (by (repeat (first | exact look_hit | (apply look_at; focus (first | rfl | (simp; done) | (congr 2; omega))) | (apply look_miss; focus rfl))); done), (by (repeat (first | exact look_hit | (apply look_at; focus (first | rfl | (simp; done) | (congr 2; omega))) | (apply look_miss; focus rfl))); done), (by (repeat (first | exact look_hit | (apply look_at; focus (first | rfl | (simp; done) | (congr 2; omega))) | (apply look_miss; focus rfl))); done), trivial⟩, hoh', (.inr ⟨bq, rfl, by rw [List.length_eraseIdx_of_lt hlt]; omega, hq2, rfl⟩), (.inr ⟨bw, rfl, hw1, hw2, rfl⟩), (Nat.zero_le _), (by rw [← wake_yes hlt hf]; exact hwk), (haveL_mode hmh (hmq _ (List.getElem_mem hlt))), (fun y hy => hmq y (List.mem_of_mem_eraseIdx hy)), (by have := haveL_le h q[i]; rw [List.length_eraseIdx_of_lt hlt]; omega), (by rw [List.length_append, List.length_eraseIdx_of_lt hlt]; simp; omega), rfl⟩
                first | omega | (simp only []; omega) | (simp only [List.length_eraseIdx_of_lt hlt]; omega)
            · have hc2' := hc2
              (try simp only [decide_eq_true_eq, decide_eq_false_iff_not, beq_iff_eq, bne_iff_ne, Bool.not_eq_true', Bool.not_eq_false', Bool.not_eq_true, Bool.not_eq_false, beq_eq_false_iff_ne, ne_eq, bne_eq_false_iff_eq, Bool.and_eq_true, Bool.or_eq_true, Bool.not_not, Bool.and_eq_false_iff, Bool.or_eq_false_iff, Int.not_lt, Int.not_le] at hc2')
              have hend := (wake_end (h := h) (ws := ws) (show ¬ i < q.length by omega)).symm.trans hwk
              refine CD.exit ?_
              refine CD.seq ?_
              refine CD.region ?_
              refine OD.cover (A := ⟨b9, 25, 2, [.v (.slice ah h.length ch), .v (.slice aq q.length cq)]⟩) (R := [⟨b4, 25, 2, [.v (.slice none 0 0), .v (.slice none 0 0)]⟩] ++ Sw) (Sd := Sq ++ Sh) (cs' := [locksD h, locksD q]) (perm_cnt fun f__ => by simp only [St.put, List.map_append, List.map_cons, List.map_nil, List.sum_append, List.sum_cons, List.sum_nil] at *; omega) ⟨view_own hoh (cells_len _) (fun B hB => by simp [hB]), view_own hoq (cells_len _) (fun B hB => by simp [hB]), trivial⟩ ?_
              refine OD.still (wants_plain rfl) rfl (still_r1 (mk := Op.load 25) rfl ot (by first | exact ld_blks (k := 0) (ds := [_, _]) rfl rfl Tryd.isAgg25 Tryd.sizeOf25 rfl rfl | exact ld_fms cL_len Tryd.isAgg25 Tryd.sizeOf25 (by first | assumption | omega) | exact ld_rows (k := 0) cL_len rfl rfl rfl Tryd.isAgg25 Tryd.sizeOf25 (by first | assumption | omega) | exact ld_rows (k := 1) cL_len rfl rfl rfl Tryd.isAgg25 Tryd.sizeOf25 (by first | assumption | omega) | exact ld_is (ds := [_, _]) Tryd.isAgg25 Tryd.sizeOf25 rfl rfl)) ?_
              refine OD.call (wants_plain rfl) rfl rfl rfl Tryd.call28 (own_vc _ h q (by omega)) ⟨ot, trivial⟩ (perm_none _) ?_
              rintro _ S3 ⟨ah3, ch3, aq3, cq3, Sh3, Sq3, rfl, hoh3, hoq3, rfl⟩
              refine OD.perm (S' := ⟨b9, 25, 2, [locksD h, locksD q]⟩ :: ⟨b4, 25, 2, [.v (.slice none 0 0), .v (.slice none 0 0)]⟩ :: (Sw ++ (Sq3 ++ Sh3))) (perm_cnt fun f__ => by simp only [St.put, List.map_append, List.map_cons, List.map_nil, List.sum_append, List.sum_cons, List.sum_nil] at *; omega) ?_
              refine OD.still (wants_plain rfl) rfl (still_mv rfl ot) ?_
              refine OD.store (k := 1) (cs' := [_, _]) (wants_plain rfl) rfl rfl ot rfl rfl ot rfl rfl Tryd.sizeOf25 rfl rfl rfl ?_
              refine OD.still (wants_plain rfl) rfl (still_as rfl ot) ?_
              refine OD.still (wants_plain rfl) rfl (still_as rfl opd_const) ?_
              refine OD.wk (Wk.as_ (n := 72) (l' := [(4, _), (5, _), (6, _)]) (S' := (⟨b9, 25, 2, [_, _]⟩ :: ⟨b4, 25, 2, [_, _]⟩ :: (Sw ++ (Sq3 ++ Sh3)))) rfl rfl ⟨lk, lk, lk, trivial⟩) ?_
              refine OD.nil ?_
              refine CD.ret ?_
              refine ⟨.inr rfl, _, _, (.cons _ (.cons _ (.refl _))), ret_three Tryd.results17 (res_cells (k := 1) (ds := [_, _]) (Nat.le_of_ble_eq_true rfl) lk rfl rfl Tryd.isAgg25 Tryd.sizeOf25 rfl rfl) (res_tmp (Nat.le_of_ble_eq_true rfl) lk) (res_tmp (Nat.le_of_ble_eq_true rfl) lk), ?_⟩
              first | (refine ⟨_, _, _, _, _, _, _, _, _, _, _, _, _, leave_no (by omega), rfl, own_nil, own_nil, ownI_nil, List.Perm.refl _⟩) | (refine ⟨_, _, _, _, _, _, _, _, _, _, _, _, _, leave_yes (by omega) (by omega) hend.symm, rfl, hoh3, hoq3, how, List.Perm.refl _⟩) | skip

end Go.Proofs.YtcogdagfcndbfaaDoor.Lk

namespace Go.Proofs.YtcogdagfcndbfaaDoor.Lk
set_option linter.unusedVariables false
set_option linter.unusedSimpArgs false

/-- Locks that may be, but for those who wait: they may be first now. -/
structure WG (held queue : List L) : Prop where
  few : held.length + queue.length ≤ 200
  shape : ∀ h ∈ held, shapeF h = 0
  keys : held.Pairwise (fun a b => hasK b.t b.th a = false)
  free : ∀ h ∈ held, freeB held h = true
  qshape : ∀ q ∈ queue, shapeF q = 0
  qkeys : queue.Pairwise (fun a b => (a.t == b.t) = false)
  wrong : ∀ q ∈ queue, wrongQ held q = false

theorem badH_iff {held : List L} {i : Nat} {h : L} : badH held i h = false ↔ findI (held.take i) h.t h.th < 0 ∧ freeB held h = true := by
  unfold badH
  rw [Bool.or_eq_false_iff, decide_eq_false_iff_not, Bool.not_eq_false']
  constructor <;> rintro ⟨h1, h2⟩ <;> exact ⟨by omega, h2⟩
theorem badQ_iff {held queue : List L} {i : Nat} {q : L} : badQ held queue i q = false ↔ shapeF q = 0 ∧ (queue.take i).any (fun x => x.t == q.t) = false ∧ wrongQ held q = false ∧ firstQ held (queue.take i) q = false := by
  unfold badQ
  simp only [Bool.or_eq_false_iff, bne_eq_false_iff_eq]
  constructor
  · rintro ⟨⟨⟨h1, h2⟩, h3⟩, h4⟩; exact ⟨h1, h2, h3, h4⟩
  · rintro ⟨h1, h2, h3, h4⟩; exact ⟨⟨⟨h1, h2⟩, h3⟩, h4⟩

theorem Good.wg {held queue : List L} (g : Good held queue) : WG held queue where
  few := g.few
  shape := g.shape
  keys := List.pairwise_iff_getElem.2 fun i j hi hj hij => by
    have := findI_neg.1 (badH_iff.1 (g.heldOk j hj)).1
    exact this _ (List.mem_iff_getElem.2 ⟨i, by rw [List.length_take]; omega, by rw [List.getElem_take]⟩)
  free := fun h hh => by
    obtain ⟨i, hi, rfl⟩ := List.mem_iff_getElem.1 hh
    exact (badH_iff.1 (g.heldOk i hi)).2
  qshape := fun h hh => by
    obtain ⟨i, hi, rfl⟩ := List.mem_iff_getElem.1 hh
    exact (badQ_iff.1 (g.queueOk i hi)).1
  qkeys := List.pairwise_iff_getElem.2 fun i j hi hj hij => by
    have := List.any_eq_false.1 (badQ_iff.1 (g.queueOk j hj)).2.1
    have := this _ (List.mem_iff_getElem.2 ⟨i, by rw [List.length_take]; omega, by rw [List.getElem_take]⟩)
    simpa using this
  wrong := fun h hh => by
    obtain ⟨i, hi, rfl⟩ := List.mem_iff_getElem.1 hh
    exact (badQ_iff.1 (g.queueOk i hi)).2.2.1

theorem WG.good {held queue : List L} (g : WG held queue) (hf : ∀ i (hi : i < queue.length), firstQ held (queue.take i) queue[i] = false) : Good held queue where
  few := g.few
  shape := g.shape
  heldOk := fun i hi => badH_iff.2 ⟨findI_neg.2 fun x hx => by
    obtain ⟨j, hj, rfl⟩ := List.mem_iff_getElem.1 hx
    rw [List.length_take] at hj
    rw [List.getElem_take]
    exact List.pairwise_iff_getElem.1 g.keys j i (by omega) hi (by omega), g.free _ (List.getElem_mem hi)⟩
  queueOk := fun i hi => badQ_iff.2 ⟨g.qshape _ (List.getElem_mem hi), List.any_eq_false.2 fun x hx => by
    obtain ⟨j, hj, rfl⟩ := List.mem_iff_getElem.1 hx
    rw [List.length_take] at hj
    rw [List.getElem_take]
    have := List.pairwise_iff_getElem.1 g.qkeys j i (by omega) hi (by omega)
    simpa using this, g.wrong _ (List.getElem_mem hi), hf i hi⟩

theorem good_nil : Good [] [] := ⟨by decide, (fun _ h => by cases h), (fun i hi => by simp at hi), (fun i hi => by simp at hi)⟩

/-! ### have -/

/-- Alike, as far as clashes go. -/
def Like (y x : L) : Prop := y.t = x.t ∧ y.th.toList = x.th.toList ∧ y.m = x.m
theorem Like.refl (x : L) : Like x x := ⟨rfl, rfl, rfl⟩
theorem Like.clash1 {y x z : L} (h : Like y x) : clash y z = clash x z := by obtain ⟨h1, h2, h3⟩ := h; unfold clash; rw [h1, h2, h3]
theorem Like.clash2 {y x z : L} (h : Like y x) : clash z y = clash z x := by obtain ⟨h1, h2, h3⟩ := h; unfold clash; rw [h1, h2, h3]

theorem clash_sym {a b : L} (ha : modeB a.m = true) (hb : modeB b.m = true) : clash a b = clash b a := by
  unfold clash
  rw [fits_sym hb ha]
  have e1 : (b.th.toList == a.th.toList) = (a.th.toList == b.th.toList) := by rw [Bool.eq_iff_iff, beq_iff_eq, beq_iff_eq]; exact eq_comm
  have e2 : (b.t != a.t) = (a.t != b.t) := by rw [Bool.eq_iff_iff, bne_iff_ne, bne_iff_ne]; exact ne_comm
  rw [e1, e2]

theorem freeB_iff {held : List L} {x : L} : freeB held x = true ↔ ∀ h ∈ held, clash x h = false := by
  unfold freeB
  rw [Bool.not_eq_true', List.any_eq_false]
  constructor <;> intro h y hy <;> simpa using h y hy

theorem have_mem {held : List L} {x y : L} (hk : held.Pairwise (fun a b => hasK b.t b.th a = false)) (h : y ∈ haveL held x) : (y ∈ held ∧ hasK x.t x.th y = false) ∨ Like y x := by
  unfold haveL at h
  cases hf : held.findIdx? (hasK x.t x.th) with
  | none =>
    rw [hf] at h
    rcases List.mem_append.1 h with h | h
    · exact .inl ⟨h, List.findIdx?_eq_none_iff.1 hf y h⟩
    · simp only [List.mem_singleton] at h; subst h; exact .inr (Like.refl _)
  | some k =>
    rw [hf] at h
    obtain ⟨h1, h2, h3⟩ := List.findIdx?_eq_some_iff_getElem.1 hf
    obtain ⟨j, hj, rfl⟩ := List.mem_iff_getElem.1 h
    simp only [List.length_modify] at hj
    simp only [List.getElem_modify]
    by_cases e : k = j
    · subst e
      simp only [if_true]
      obtain ⟨q1, q2⟩ := hasK_iff.1 h2
      exact .inr ⟨q1, q2, rfl⟩
    · simp only [if_neg e]
      refine .inl ⟨List.getElem_mem hj, ?_⟩
      obtain ⟨q1, q2⟩ := hasK_iff.1 h2
      rcases Nat.lt_or_gt_of_ne e with h4 | h4
      · have := List.pairwise_iff_getElem.1 hk k j h1 hj h4
        cases hq : hasK x.t x.th held[j] with
        | false => rfl
        | true =>
          obtain ⟨p1, p2⟩ := hasK_iff.1 hq
          rw [hasK_iff.2 ⟨q1.trans p1.symm, q2.trans p2.symm⟩] at this
          cases this
      · simpa using h3 j h4

theorem have_old {held : List L} {x h : L} (hh : h ∈ held) (hn : hasK x.t x.th h = false) : h ∈ haveL held x := by
  unfold haveL
  cases hf : held.findIdx? (hasK x.t x.th) with
  | none => exact List.mem_append_left _ hh
  | some k =>
    obtain ⟨h1, h2, h3⟩ := List.findIdx?_eq_some_iff_getElem.1 hf
    obtain ⟨j, hj, rfl⟩ := List.mem_iff_getElem.1 hh
    refine List.mem_iff_getElem.2 ⟨j, by simpa using hj, ?_⟩
    simp only [List.getElem_modify]
    rw [if_neg]
    intro e; subst e
    rw [hn] at h2; cases h2

theorem have_new {held : List L} {x : L} : ∃ y ∈ haveL held x, Like y x := by
  unfold haveL
  cases hf : held.findIdx? (hasK x.t x.th) with
  | none => exact ⟨x, List.mem_append_right _ List.mem_cons_self, Like.refl _⟩
  | some k =>
    obtain ⟨h1, h2, h3⟩ := List.findIdx?_eq_some_iff_getElem.1 hf
    obtain ⟨q1, q2⟩ := hasK_iff.1 h2
    exact ⟨{ held[k] with m := x.m }, List.mem_iff_getElem.2 ⟨k, by simpa using h1, by simp only [List.getElem_modify, if_true]⟩, q1, q2, rfl⟩

theorem have_keys {held : List L} {x : L} (hk : held.Pairwise (fun a b => hasK b.t b.th a = false)) : (haveL held x).Pairwise (fun a b => hasK b.t b.th a = false) := by
  unfold haveL
  cases hf : held.findIdx? (hasK x.t x.th) with
  | none =>
    rw [List.pairwise_append]
    refine ⟨hk, List.pairwise_singleton _ _, fun a ha b hb => ?_⟩
    simp only [List.mem_singleton] at hb; subst hb
    exact List.findIdx?_eq_none_iff.1 hf a ha
  | some k =>
    refine List.pairwise_iff_getElem.2 fun i j hi hj hij => ?_
    simp only [List.length_modify] at hi hj
    have := List.pairwise_iff_getElem.1 hk i j hi hj hij
    simp only [List.getElem_modify]
    by_cases e1 : k = i <;> by_cases e2 : k = j <;> simp only [e1, e2, if_true, if_false] <;> (try split) <;> exact this

theorem have_shape {held : List L} {x : L} (hs : ∀ h ∈ held, shapeF h = 0) (hx : shapeF x = 0) : ∀ y ∈ haveL held x, shapeF y = 0 := by
  intro y hy
  unfold haveL at hy
  cases hf : held.findIdx? (hasK x.t x.th) with
  | none =>
    rw [hf] at hy
    rcases List.mem_append.1 hy with h | h
    · exact hs y h
    · simp only [List.mem_singleton] at h; subst h; exact hx
  | some k =>
    rw [hf] at hy
    obtain ⟨j, hj, rfl⟩ := List.mem_iff_getElem.1 hy
    simp only [List.length_modify] at hj
    simp only [List.getElem_modify]
    have := shape_iff.1 (hs _ (List.getElem_mem hj))
    split
    · exact shape_iff.2 ⟨this.1, this.2.1, (shape_iff.1 hx).2.2⟩
    · exact hs _ (List.getElem_mem hj)

theorem have_free {held : List L} {x : L} (hk : held.Pairwise (fun a b => hasK b.t b.th a = false)) (hs : ∀ h ∈ held, modeB h.m = true) (hx : modeB x.m = true) (hf : ∀ h ∈ held, freeB held h = true) (hfx : freeB held x = true) :
    ∀ y ∈ haveL held x, freeB (haveL held x) y = true := by
  intro y hy
  rw [freeB_iff]
  intro z hz
  rcases have_mem hk hy with ⟨h1, h2⟩ | h1 <;> rcases have_mem hk hz with ⟨h3, h4⟩ | h3
  · exact freeB_iff.1 (hf y h1) z h3
  · rw [h3.clash2, clash_sym (hs y h1) hx]
    exact freeB_iff.1 hfx y h1
  · rw [h1.clash1]; exact freeB_iff.1 hfx z h3
  · unfold clash
    rw [h1.1, h3.1]; simp

theorem find_modify {p : L → Bool} {f : L → L} (hp : ∀ a, p (f a) = p a) : ∀ (l : List L) (k : Nat), (∀ h : k < l.length, p l[k] = false) → (l.modify k f).find? p = l.find? p
  | [], k, _ => by simp
  | a :: l, 0, h => by
    have : p a = false := h (by simp)
    simp [List.find?_cons, hp, this]
  | a :: l, k + 1, h => by
    rw [List.modify_succ_cons, List.find?_cons, List.find?_cons, find_modify hp l k (fun hk => h (by simpa using hk))]

theorem own_have {held : List L} {x q : L} (hq : q.t ≠ x.t) : ownM (haveL held x) q = ownM held q := by
  unfold ownM haveL
  cases hf : held.findIdx? (hasK x.t x.th) with
  | none =>
    have : hasK q.t q.th x = false := by
      cases e : hasK q.t q.th x with
      | false => rfl
      | true => exact absurd (hasK_iff.1 e).1.symm hq
    rw [List.find?_append]
    simp [this]
  | some k =>
    obtain ⟨h1, h2, h3⟩ := List.findIdx?_eq_some_iff_getElem.1 hf
    simp only []
    rw [find_modify (p := hasK q.t q.th) (f := fun h => { h with m := x.m }) (fun a => rfl) held k (fun hk => by
      cases e : hasK q.t q.th held[k] with
      | false => rfl
      | true => exact absurd ((hasK_iff.1 e).1.symm.trans (hasK_iff.1 h2).1) hq)]

theorem find_own {held : List L} {q : L} : 0 ≤ findI held q.t q.th ↔ ownM held q ≠ none := by
  rw [findI_nn]
  unfold ownM
  cases h : held.find? (hasK q.t q.th) with
  | none =>
    simp only [Option.map_none, ne_eq, not_true, iff_false]
    rintro ⟨y, hy, hk⟩
    have := List.find?_eq_none.1 h y hy
    exact this hk
  | some y =>
    simp only [Option.map_some, ne_eq, reduceCtorEq, not_false_eq_true, iff_true]
    exact ⟨y, List.mem_of_find?_eq_some h, List.find?_some h⟩

theorem own_mem {held : List L} {x h : L} (hk : held.Pairwise (fun a b => hasK b.t b.th a = false)) (hh : h ∈ held) (hx : hasK x.t x.th h = true) : ownM held x = some h.m := by
  unfold ownM
  cases hf : held.find? (hasK x.t x.th) with
  | none => exact absurd hx (List.find?_eq_none.1 hf h hh)
  | some y =>
    have h1 := List.mem_of_find?_eq_some hf
    have h2 := List.find?_some hf
    obtain ⟨i, hi, rfl⟩ := List.mem_iff_getElem.1 hh
    obtain ⟨j, hj, rfl⟩ := List.mem_iff_getElem.1 h1
    obtain ⟨a1, a2⟩ := hasK_iff.1 hx
    obtain ⟨b1, b2⟩ := hasK_iff.1 h2
    rcases Nat.lt_trichotomy i j with hij | hij | hij
    · have := List.pairwise_iff_getElem.1 hk i j hi hj hij
      rw [hasK_iff.2 ⟨a1.trans b1.symm, a2.trans b2.symm⟩] at this; cases this
    · subst hij; rfl
    · have := List.pairwise_iff_getElem.1 hk j i hj hi hij
      rw [hasK_iff.2 ⟨b1.trans a1.symm, b2.trans a2.symm⟩] at this; cases this

theorem own_some_mem {held : List L} {x : L} {m : Int} (h : ownM held x = some m) : ∃ y ∈ held, hasK x.t x.th y = true ∧ y.m = m := by
  unfold ownM at h
  cases hf : held.find? (hasK x.t x.th) with
  | none => rw [hf] at h; cases h
  | some y => rw [hf] at h; exact ⟨y, List.mem_of_find?_eq_some hf, List.find?_some hf, Option.some.inj h⟩

theorem free_have {held : List L} {x q : L} (hk : held.Pairwise (fun a b => hasK b.t b.th a = false)) (hs : ∀ h ∈ held, modeB h.m = true) (hx : modeB x.m = true) (hq : modeB q.m = true) (hj : ∀ m, ownM held x = some m → joinsF m x.m = x.m)
    (h : freeB (haveL held x) q = true) : freeB held q = true := by
  rw [freeB_iff] at h ⊢
  intro y hy
  cases hky : hasK x.t x.th y with
  | false => exact h y (have_old hy hky)
  | true =>
    obtain ⟨z, hz, hl⟩ := have_new (held := held) (x := x)
    have h1 := h z hz
    rw [hl.clash2] at h1
    obtain ⟨a1, a2⟩ := hasK_iff.1 hky
    have hjm := hj _ (own_mem hk hy hky)
    unfold clash at h1 ⊢
    rw [a1, a2]
    cases e : fitsF x.m q.m with
    | true => rw [← hjm] at e; rw [(fits_anti (hs y hy) hx hq e).1]; simp
    | false => rw [e] at h1; rw [Bool.and_eq_false_iff] at h1 ⊢; rcases h1 with h1 | h1; exact .inl h1; right; simp at h1 ⊢; simp [h1]

theorem first_have {held before : List L} {x q : L} (hk : held.Pairwise (fun a b => hasK b.t b.th a = false)) (hs : ∀ h ∈ held, modeB h.m = true) (hx : modeB x.m = true) (hq : modeB q.m = true) (hj : ∀ m, ownM held x = some m → joinsF m x.m = x.m) (hne : q.t ≠ x.t)
    (h : firstQ held before q = false) : firstQ (haveL held x) before q = false := by
  cases e : firstQ (haveL held x) before q with
  | false => rfl
  | true =>
    unfold firstQ at e h
    rw [Bool.and_eq_true] at e
    rw [free_have hk hs hx hq hj e.1, Bool.true_and] at h
    have e2 := e.2
    have : decide (0 ≤ findI (haveL held x) q.t q.th) = decide (0 ≤ findI held q.t q.th) := by rw [decide_eq_decide, find_own, find_own, own_have hne]
    rw [this, h] at e2
    exact e2.symm

theorem WG.mode {held queue : List L} (g : WG held queue) : ∀ h ∈ held, modeB h.m = true := fun h hh => (shape_iff.1 (g.shape h hh)).2.2
theorem WG.modeQ {held queue : List L} (g : WG held queue) : ∀ h ∈ queue, modeB h.m = true := fun h hh => (shape_iff.1 (g.qshape h hh)).2.2

/-- Somebody has what they may have now. -/
theorem WG.have_ {held queue queue' : List L} {x : L} (g : WG held queue) (hsub : queue'.Sublist queue) (hx : shapeF x = 0) (hf : freeB held x = true) (hlen : (haveL held x).length + queue'.length ≤ 200) (hne : ∀ q ∈ queue', q.t ≠ x.t) : WG (haveL held x) queue' where
  few := hlen
  shape := have_shape g.shape hx
  keys := have_keys g.keys
  free := have_free g.keys g.mode (shape_iff.1 hx).2.2 g.free hf
  qshape := fun q hq => g.qshape q (hsub.subset hq)
  qkeys := g.qkeys.sublist hsub
  wrong := fun q hq => by
    have := g.wrong q (hsub.subset hq)
    unfold wrongQ at this ⊢
    rw [own_have (hne q hq)]; exact this

/-! ### Ask -/

theorem good_ask {held queue : List L} {x : L} (g : Good held queue) (hx : shapeF x = 0) (ht : queue.any (fun y => y.t == x.t) = false) : Good (askG held queue x).1 (askG held queue x).2.1 := by
  have hne : ∀ q ∈ queue, q.t ≠ x.t := fun q hq => by have := List.any_eq_false.1 ht q hq; simpa using this
  -- the wish with its join
  have key : ∀ x' : L, x'.t = x.t → x'.th = x.th → shapeF x' = 0 → (∀ m, ownM held x = some m → joinsF m x'.m = x'.m ∧ ¬ m = x'.m) →
      Good (if firstQ held queue x' = true then (if (haveL held x').length + queue.length > 200 then ([], [], false, (10 : Int)) else (haveL held x', queue, true, 0)) else if held.length + (queue.length + 1) > 200 then ([], [], false, 10) else (held, queue ++ [x'], false, 0)).1
        (if firstQ held queue x' = true then (if (haveL held x').length + queue.length > 200 then ([], [], false, (10 : Int)) else (haveL held x', queue, true, 0)) else if held.length + (queue.length + 1) > 200 then ([], [], false, 10) else (held, queue ++ [x'], false, 0)).2.1 := by
    intro x' e1 e2 hs hj
    have hown : ownM held x' = ownM held x := by unfold ownM; rw [e1, e2]
    have hne' : ∀ q ∈ queue, q.t ≠ x'.t := fun q hq => by rw [e1]; exact hne q hq
    split
    · rename_i hf
      split
      · exact good_nil
      · rename_i hl
        have hfree : freeB held x' = true := by unfold firstQ at hf; rw [Bool.and_eq_true] at hf; exact hf.1
        refine (g.wg.have_ (List.Sublist.refl _) hs hfree (by omega) hne').good fun i hi => ?_
        refine first_have g.wg.keys g.wg.mode (shape_iff.1 hs).2.2 (g.wg.modeQ _ (List.getElem_mem hi)) (fun m hm => (hj m (hown ▸ hm)).1) (hne' _ (List.getElem_mem hi)) (badQ_iff.1 (g.queueOk i hi)).2.2.2
    · rename_i hf
      split
      · exact good_nil
      · rename_i hl
        refine WG.good (⟨by simp only [List.length_append, List.length_singleton]; omega, g.shape, g.wg.keys, g.wg.free, fun q hq => ?_, ?_, fun q hq => ?_⟩ : WG held (queue ++ [x'])) fun i hi => ?_
        · rcases List.mem_append.1 hq with hq | hq
          · exact g.wg.qshape q hq
          · simp only [List.mem_singleton] at hq; subst hq; exact hs
        · show (queue ++ [x']).Pairwise _
          rw [List.pairwise_append]
          refine ⟨g.wg.qkeys, List.pairwise_singleton _ _, fun a ha b hb => ?_⟩
          simp only [List.mem_singleton] at hb; subst hb
          simpa using hne' a ha
        · rcases List.mem_append.1 hq with hq | hq
          · exact g.wg.wrong q hq
          · simp only [List.mem_singleton] at hq; subst hq
            unfold wrongQ
            cases hm : ownM held q with
            | none => rfl
            | some m =>
              obtain ⟨h1, h2⟩ := hj m (hown ▸ hm)
              simp [h1, h2]
        · simp only [List.length_append, List.length_singleton] at hi
          rcases Nat.lt_or_ge i queue.length with h | h
          · rw [List.take_append_of_le_length (by omega), List.getElem_append_left h]
            exact (badQ_iff.1 (g.queueOk i h)).2.2.2
          · have : i = queue.length := by omega
            subst this
            simpa using hf
  unfold askG
  cases hm : ownM held x with
  | none =>
    simp only []
    rw [if_neg (by simp)]
    exact key x rfl rfl hx (fun m h => by rw [hm] at h; cases h)
  | some m =>
    simp only [Option.some.injEq]
    obtain ⟨y, hy, _, hym⟩ := own_some_mem hm
    have hmm : modeB m = true := hym ▸ g.wg.mode y hy
    have hxm := (shape_iff.1 hx).2.2
    by_cases e : m = joinsF m x.m
    · rw [if_pos e]; exact g
    · rw [if_neg e]
      refine key { x with m := joinsF m x.m } rfl rfl (shape_iff.2 ⟨(shape_iff.1 hx).1, (shape_iff.1 hx).2.1, join_mode hmm hxm⟩) fun m' h => ?_
      rw [hm] at h
      have := Option.some.inj h
      subst this
      exact ⟨join_idem hmm hxm, e⟩

/-! ### Leave -/

theorem find_filter {p f : L → Bool} {l : List L} (h : ∀ a, p a = true → f a = true) : (l.filter f).find? p = l.find? p := by
  induction l with
  | nil => rfl
  | cons a l ih =>
    rw [List.filter_cons]
    cases hf : f a with
    | true => simp [List.find?_cons, ih]
    | false =>
      have : p a = false := by
        cases hp : p a with
        | false => rfl
        | true => rw [h a hp] at hf; cases hf
      simp [List.find?_cons, this, ih]

theorem wg_leave {held queue : List L} {t : Int} (g : WG held queue) : WG (held.filter (·.t != t)) (queue.filter (·.t != t)) where
  few := by have := List.length_filter_le (fun x : L => x.t != t) held; have := List.length_filter_le (fun x : L => x.t != t) queue; have := g.few; omega
  shape := fun h hh => g.shape h (List.mem_filter.1 hh).1
  keys := g.keys.sublist List.filter_sublist
  free := fun h hh => freeB_iff.2 fun z hz => freeB_iff.1 (g.free h (List.mem_filter.1 hh).1) z (List.mem_filter.1 hz).1
  qshape := fun h hh => g.qshape h (List.mem_filter.1 hh).1
  qkeys := g.qkeys.sublist List.filter_sublist
  wrong := fun q hq => by
    obtain ⟨h1, h2⟩ := List.mem_filter.1 hq
    have := g.wrong q h1
    have e : ownM (held.filter (·.t != t)) q = ownM held q := by
      unfold ownM
      rw [find_filter]
      intro a hk
      rw [(hasK_iff.1 hk).1]; exact h2
    unfold wrongQ at this ⊢
    rw [e]; exact this

theorem good_wake : ∀ (n : Nat) (held queue : List L) (i : Nat) (ws : List Int), queue.length * 1000 + (queue.length - i) = n → WG held queue → (∀ k (hk : k < queue.length), k < i → firstQ held (queue.take k) queue[k] = false) → i ≤ queue.length →
    Good (wake held queue i ws).1 (wake held queue i ws).2.1 := by
  intro n
  induction n using Nat.strongRecOn with
  | _ n ih =>
    intro held queue i ws hn g hf hi
    by_cases h : i < queue.length
    · rw [wake, dif_pos h]
      have hlen := g.few
      cases hq : firstQ held (queue.take i) queue[i] with
      | true =>
        rw [if_pos rfl]
        have hfree : freeB held queue[i] = true := by unfold firstQ at hq; rw [Bool.and_eq_true] at hq; exact hq.1
        have hle : (haveL held queue[i]).length ≤ held.length + 1 := by unfold haveL; split <;> simp
        refine ih ((queue.eraseIdx i).length * 1000 + ((queue.eraseIdx i).length - 0)) (by rw [List.length_eraseIdx_of_lt h]; omega) _ _ 0 _ rfl ?_ (fun k _ hk => by omega) (Nat.zero_le _)
        refine g.have_ (List.eraseIdx_sublist _ _) (g.qshape _ (List.getElem_mem h)) hfree (by rw [List.length_eraseIdx_of_lt h]; omega) fun q hq' => ?_
        obtain ⟨j, hj, rfl⟩ := List.mem_iff_getElem.1 hq'
        rw [List.getElem_eraseIdx]
        rw [List.length_eraseIdx_of_lt h] at hj
        split
        · rename_i hji
          have := List.pairwise_iff_getElem.1 g.qkeys j i (by omega) h hji
          simpa using this
        · rename_i hji
          have := List.pairwise_iff_getElem.1 g.qkeys i (j + 1) h (by omega) (by omega)
          have h2 : queue[i].t ≠ queue[j + 1].t := by simpa using this
          exact fun e => h2 e.symm
      | false =>
        rw [if_neg Bool.false_ne_true]
        refine ih (queue.length * 1000 + (queue.length - (i + 1))) (by omega) _ _ (i + 1) _ rfl g (fun k hk hki => ?_) (by omega)
        rcases Nat.lt_or_ge k i with h1 | h1
        · exact hf k hk h1
        · have : k = i := by omega
          subst this; exact hq
    · rw [wake, dif_neg h]
      exact g.good fun k hk => hf k hk (by omega)

theorem good_leave {held queue : List L} {t : Int} (g : Good held queue) : Good (leaveG held queue t).1 (leaveG held queue t).2.1 :=
  good_wake _ _ _ 0 _ rfl (wg_leave g.wg) (fun k _ hk => by omega) (Nat.zero_le _)

end Go.Proofs.YtcogdagfcndbfaaDoor.Lk

namespace Go.Proofs.YtcogdagfcndbfaaDoor.Lk
open Go.RowKit V
set_option linter.unusedVariables false
set_option linter.unusedSimpArgs false

def intsD (ws : List Int) : D := .list 1 (ws.flatMap cI) ws.length
theorem leave_vp {held queue : List L} {t : Int} (g : Good held queue) {h' q' : List L} {ws : List Int} {e : Int} (he : leaveF held queue t = (h', q', ws, e)) : VP Tryd.prog TG 17 [locksS held queue, .v (.int .i64 t)] (.tup [locksS h' q', intsD ws, .v (.int .i64 e)]) :=
  (leave_vc held queue t g).cover fun r S hr => by
    obtain ⟨h1, q1, ws1, e1, ah, ch, aq, cq, aw, cw, Sh, Sq, Sw, h, rfl, hh, hq, hw, hp⟩ := hr
    rw [he] at h
    obtain ⟨rfl, rfl, rfl, rfl⟩ := h
    exact view_tup (ds := [_, _, _]) ⟨view_agg (ds := [_, _]) ⟨view_own hh (cells_len _) (fun B hB => hp.mem_iff.2 (by simp [hB])), view_own hq (cells_len _) (fun B hB => hp.mem_iff.2 (by simp [hB])), trivial⟩, view_own hw (fm_len cI_len _) (fun B hB => hp.mem_iff.2 (by simp [hB])), view_same, trivial⟩

def modeF (l : List L) (t : Int) (th : ByteArray) : Int := ((l.find? (hasK t th)).map (·.m)).getD 0
variable (G : List (Nat × List Value))

end Go.Proofs.YtcogdagfcndbfaaDoor.Lk

namespace Go.Proofs.YtcogdagfcndbfaaDoor.Lk
open Go.RowKit V
set_option linter.unusedVariables false
set_option linter.unusedSimpArgs false

theorem ask_good {held queue : List L} {x : L} (g : Good held queue) {h' q' : List L} {b : Bool} {e : Int} (he : askF held queue x = (h', q', b, e)) : Good h' q' := by
  by_cases h1 : shapeF x = 0
  · cases h2 : (queue.any fun y => y.t == x.t) with
    | true => rw [ask_twice h1 h2] at he; cases he; exact good_nil
    | false =>
      have h := good_ask g h1 h2
      rw [ask_on h1 h2] at he
      rw [he] at h; exact h
  · rw [ask_shape h1] at he; cases he; exact good_nil
theorem leave_good {held queue : List L} {t : Int} (g : Good held queue) {h' q' : List L} {ws : List Int} {e : Int} (he : leaveF held queue t = (h', q', ws, e)) : Good h' q' := by
  by_cases h1 : t < 1 ∨ t > 1048576
  · rw [leave_no h1] at he; cases he; exact good_nil
  · unfold leaveF at he
    rw [if_neg h1] at he
    cases he; exact good_leave g
theorem cover_nil {n : Nat} {l : List (Nat × D)} {S : List Blk} {b e : Nat} : Wk ⟨n, l, ⟨b, e, 2, [.v (.slice none 0 0), .v (.slice none 0 0)]⟩ :: S⟩ ⟨n, l, ⟨b, e, 2, [locksD [], locksD []]⟩ :: S⟩ :=
  Wk.cover (A := ⟨b, e, 2, [.v (.slice none 0 0), .v (.slice none 0 0)]⟩) (R := S) (Sd := []) (by simp) ⟨view_nil, view_nil, trivial⟩

end Go.Proofs.YtcogdagfcndbfaaDoor.Lk

namespace Go.Proofs.YtcogdagfcndbfaaDoor.Lk
open Go.RowKit V
set_option linter.unusedVariables false
set_option linter.unusedSimpArgs false

/-- A wish. -/
structure W3 where
  a : Int
  b : Int
  c : Int
def cW (x : W3) : List D := [.v (.int .i64 x.a), .v (.int .i64 x.b), .v (.int .i64 x.c)]
theorem cW_len (x : W3) : (cW x).length = 3 := rfl
structure W3.Ok (x : W3) : Prop where
  a1 : -9223372036854775808 ≤ x.a
  a2 : x.a ≤ 9223372036854775807
  b1 : -9223372036854775808 ≤ x.b
  b2 : x.b ≤ 9223372036854775807
  c1 : -9223372036854775808 ≤ x.c
  c2 : x.c ≤ 9223372036854775807
def byteW (b : Int) : UInt8 := UInt8.ofNat (97 + (pickedF b 4).toNat)
def lockW (x : W3) : L := ⟨1 + pickedF x.a 6, ⟨#[byteW x.b]⟩, 1 + pickedF x.c 5⟩
theorem byteW_wrap (b : Int) : IntKind.u8.wrap (97 + pickedF b 4) = ((byteW b).toNat : Int) := by
  have h := pickedF_bd b (by decide : (1 : Int) ≤ 4)
  obtain ⟨j, hj⟩ := Int.eq_ofNat_of_zero_le h.1
  unfold byteW
  rw [hj]
  have : j = 0 ∨ j = 1 ∨ j = 2 ∨ j = 3 := by omega
  rcases this with rfl | rfl | rfl | rfl <;> decide
/-- One wish more. -/
def stepF (s : List L × List L) (x : W3) : List L × List L :=
  if x.a < 0 then (if (leaveF s.1 s.2 (lockW x).t).2.2.2 = 0 then ((leaveF s.1 s.2 (lockW x).t).1, (leaveF s.1 s.2 (lockW x).t).2.1) else s)
  else if (askF s.1 s.2 (lockW x)).2.2.2 = 0 then ((askF s.1 s.2 (lockW x)).1, (askF s.1 s.2 (lockW x)).2.1) else s
theorem step_good {s : List L × List L} {x : W3} (g : Good s.1 s.2) : Good (stepF s x).1 (stepF s x).2 := by
  unfold stepF
  split
  · split
    · exact leave_good g (h' := _) (q' := _) (ws := _) (e := _) rfl
    · exact g
  · split
    · exact ask_good g (h' := _) (q' := _) (b := _) (e := _) rfl
    · exact g
def locksF (l : List W3) : List L × List L := (l.take 40).foldl stepF ([], [])
theorem fold_good : ∀ (l : List W3) {s : List L × List L}, Good s.1 s.2 → Good (l.foldl stepF s).1 (l.foldl stepF s).2
  | [], _, g => g
  | x :: l, s, g => fold_good l (step_good g)
theorem locksF_good (l : List W3) : Good (locksF l).1 (locksF l).2 := fold_good _ good_nil
theorem take_step {l : List W3} {k : Nat} (hk : k < l.length) : (l.take (k + 1)).foldl stepF ([], []) = stepF ((l.take k).foldl stepF ([], [])) l[k] := by
  rw [List.take_succ_eq_append_getElem hk, List.foldl_append]; rfl
variable (G : List (Nat × List Value))

theorem places27_Lkd : ∀ w, ((#[{ name := "Txn", type := 3, offset := 0, embedded := false, tag := "", pkgPath := "", byteOffset := 0 }, { name := "Thing", type := 9, offset := 1, embedded := false, tag := "", pkgPath := "", byteOffset := 8 }, { name := "Mode", type := 3, offset := 2, embedded := false, tag := "", pkgPath := "", byteOffset := 24 }] : Array Field).mapM fun f => do pure (f.offset, ← sizeOf f.type) : Sem (Array (Nat × Nat))).run Tryd.prog w = .ok #[(0, 1), (1, 1), (2, 1)] w := fun w => by simp [Tryd.sizeOf3, Tryd.sizeOf9]

set_option maxHeartbeats 4000000 in
set_option maxRecDepth 100000 in
theorem lockOf_vp (x : W3) (hx : x.Ok) : VP Tryd.prog G 21 [.agg (cW x)] (lockD (lockW x)) := by
  refine VC.body Tryd.func21 rfl Tryd.ntmps21 (Nat.le_of_ble_eq_true rfl) fun X0 w0 S00 => ?_
  have pa := pickedF_bd x.a (by decide : (1 : Int) ≤ 6)
  have pb := pickedF_bd x.b (by decide : (1 : Int) ≤ 4)
  have pc := pickedF_bd x.c (by decide : (1 : Int) ≤ 5)
  unfold cW
  refine CD.seq ?_
  refine CD.region ?_
  refine OD.box (ds := [_, _, _]) (wants_plain rfl) rfl rfl ot rfl rfl (fun b1 => ?_)
  refine OD.alloc (ds := [_, _, _]) (wants_plain rfl) rfl rfl Tryd.zeroValue27 rfl (fun b2 => ?_)
  refine OD.wk (Wk.as_ (n := 19) (l' := [(1, _), (2, _)]) (S' := [⟨b2, 27, 3, [_, _, _]⟩, ⟨b1, 44, 3, [_, _, _]⟩]) rfl rfl ⟨lk, lk, trivial⟩) ?_
  refine OD.nil ?_
  refine CD.seq ?_
  refine CD.mono (Q := fun e__ y__ => e__ = Exit.normal ∧ (True) ∧ Wk y__ (⟨19, [(2, .v (.pointer (some ⟨b2, 0, none⟩)))], [⟨b2, 27, 3, cL (lockW x)⟩, ⟨b1, 44, 3, cW x⟩]⟩ : St)) ?_ ?_
  · skip
    refine CD.draw (bks (List.eraseIdx _ 0)) (by kernel_rfl) (fun _ h => (List.Sublist.map _ (List.eraseIdx_sublist _ 0)).subset h) ?_
    refine AD0.take (i := 0) rfl (by kernel_rfl) (by kernel_rfl) (by kernel_rfl) (by repeat (first | exact NP.norm | exact NP.body | apply NP.then | apply NP.cut | apply NP.inBlock | apply NP.round)) (wants_plain rfl) rfl (still_r1 (mk := fun y => Op.fieldAddr 44 y 0) rfl ot (by first | exact fa_ptr (off := 0) Tryd.runUnderlying44 rfl Tryd.sizeOf3 rfl | exact fa_iptr (off := 0) Tryd.runUnderlying44 rfl Tryd.sizeOf3 rfl)) (by exact trivial) ?_
    refine AD0.take (i := 1) rfl (by kernel_rfl) (by kernel_rfl) (by kernel_rfl) (by repeat (first | exact NP.norm | exact NP.body | apply NP.then | apply NP.cut | apply NP.inBlock | apply NP.round)) (wants_plain rfl) rfl (still_r1 (mk := Op.load 3) rfl ot (by first | exact ld_blk (k := 1) rfl rfl Tryd.isAgg3 rfl | exact ld_i Tryd.isAgg3 rfl)) (by first | exact trivial | exact safe_blk (k0 := 0) rfl rfl) ?_
    refine AD0.take (i := 4) rfl (by kernel_rfl) (by kernel_rfl) (by kernel_rfl) (by repeat (first | exact NP.norm | exact NP.body | apply NP.then | apply NP.cut | apply NP.inBlock | apply NP.round)) (wants_plain rfl) rfl (still_r1 (mk := fun y => Op.fieldAddr 44 y 1) rfl ot (by first | exact fa_ptr (off := 1) Tryd.runUnderlying44 rfl Tryd.sizeOf3 rfl | exact fa_iptr (off := 1) Tryd.runUnderlying44 rfl Tryd.sizeOf3 rfl)) (by exact trivial) ?_
    refine AD0.take (i := 5) rfl (by kernel_rfl) (by kernel_rfl) (by kernel_rfl) (by repeat (first | exact NP.norm | exact NP.body | apply NP.then | apply NP.cut | apply NP.inBlock | apply NP.round)) (wants_plain rfl) rfl (still_r1 (mk := Op.load 3) rfl ot (by first | exact ld_blk (k := 1) rfl rfl Tryd.isAgg3 rfl | exact ld_i Tryd.isAgg3 rfl)) (by first | exact trivial | exact safe_blk (k0 := 0) rfl rfl) ?_
    refine AD0.take (i := 11) rfl (by kernel_rfl) (by kernel_rfl) (by kernel_rfl) (by repeat (first | exact NP.norm | exact NP.body | apply NP.then | apply NP.cut | apply NP.inBlock | apply NP.round)) (wants_plain rfl) rfl (still_r1 (mk := fun y => Op.fieldAddr 44 y 2) rfl ot (by first | exact fa_ptr (off := 2) Tryd.runUnderlying44 rfl Tryd.sizeOf3 rfl | exact fa_iptr (off := 2) Tryd.runUnderlying44 rfl Tryd.sizeOf3 rfl)) (by exact trivial) ?_
    refine AD0.take (i := 12) rfl (by kernel_rfl) (by kernel_rfl) (by kernel_rfl) (by repeat (first | exact NP.norm | exact NP.body | apply NP.then | apply NP.cut | apply NP.inBlock | apply NP.round)) (wants_plain rfl) rfl (still_r1 (mk := Op.load 3) rfl ot (by first | exact ld_blk (k := 1) rfl rfl Tryd.isAgg3 rfl | exact ld_i Tryd.isAgg3 rfl)) (by first | exact trivial | exact safe_blk (k0 := 0) rfl rfl) ?_
    refine AD0.later rfl ?_
    refine AD.one (i := 2) (by kernel_rfl) ?_
    refine AStep.callP rfl (wants_plain rfl) rfl rfl rfl Tryd.call14 (picked_vp _ x.a 6 hx.a1 hx.a2 (by decide)) ⟨ot, opd_const, trivial⟩ ?_
    refine AD.take (i := 3) rfl (by kernel_rfl) (by kernel_rfl) (by kernel_rfl) (by repeat (first | exact NP.norm | exact NP.body | apply NP.then | apply NP.cut | apply NP.inBlock | apply NP.round)) (wants_plain rfl) rfl (still_bin rfl opd_const ot (bin_add (wrap_i64 (by omega) (by omega)))) (by exact trivial) (by intro h; cases h) ?_
    refine AD.one (i := 6) (by kernel_rfl) ?_
    refine AStep.callP rfl (wants_plain rfl) rfl rfl rfl Tryd.call14 (picked_vp _ x.b 4 hx.b1 hx.b2 (by decide)) ⟨ot, opd_const, trivial⟩ ?_
    refine AD.take (i := 7) rfl (by kernel_rfl) (by kernel_rfl) (by kernel_rfl) (by repeat (first | exact NP.norm | exact NP.body | apply NP.then | apply NP.cut | apply NP.inBlock | apply NP.round)) (wants_plain rfl) rfl (still_bin rfl opd_const ot (bin_add (wrap_i64 (by omega) (by omega)))) (by exact trivial) (by intro h; cases h) ?_
    refine AD.take (i := 8) rfl (by kernel_rfl) (by kernel_rfl) (by kernel_rfl) (by repeat (first | exact NP.norm | exact NP.body | apply NP.then | apply NP.cut | apply NP.inBlock | apply NP.round)) (wants_plain rfl) rfl (still_conv rfl ot (conv_int Tryd.runUnderlying3 Tryd.runUnderlying5 (byteW_wrap x.b))) (by exact trivial) (by intro h; cases h) ?_
    refine AD.two (i := 9) (j := 13) (by kernel_rfl) ?_ ?_
    · skip
      refine AStep.bldS (pl := [(0, _)]) (zvs := [.int .u8 0]) (ds := [_]) rfl (wants_plain rfl) rfl rfl Tryd.zeroValue5 Tryd.runUnderlying69 Tryd.sizeOf5 rfl rfl (by kernel_rfl) ⟨rfl, ot, trivial⟩ rfl rfl (fun b12 => ?_)
      refine AD.give (k := 0) (t := 12) (sz := 1) (m := 1) rfl lk rfl rfl rfl (Nat.le_refl _) (by decide) ?_
      refine AD.two (i := 10) (j := 13) (by kernel_rfl) ?_ ?_
      · skip
        refine AStep.still rfl (wants_plain rfl) rfl (still_ofBytes (bs := [byteW x.b]) rfl ot Tryd.underlying69 Tryd.underlying5 Tryd.underlying9) ?_
        refine AD.one (i := 13) (by kernel_rfl) ?_
        refine AStep.callP rfl (wants_plain rfl) rfl rfl rfl Tryd.call14 (picked_vp _ x.c 5 hx.c1 hx.c2 (by decide)) ⟨ot, opd_const, trivial⟩ ?_
        refine AD.take (i := 14) rfl (by kernel_rfl) (by kernel_rfl) (by kernel_rfl) (by repeat (first | exact NP.norm | exact NP.body | apply NP.then | apply NP.cut | apply NP.inBlock | apply NP.round)) (wants_plain rfl) rfl (still_bin rfl opd_const ot (bin_add (wrap_i64 (by omega) (by omega)))) (by exact trivial) (by intro h; cases h) ?_
        refine AD.take (i := 15) rfl (by kernel_rfl) (by kernel_rfl) (by kernel_rfl) (by repeat (first | exact NP.norm | exact NP.body | apply NP.then | apply NP.cut | apply NP.inBlock | apply NP.round)) (wants_plain rfl) rfl (still_bld (pl := [(0, _), (1, _), (2, _)]) (ds := [_, _, _]) rfl Tryd.zeroValue27 Tryd.runUnderlying27 places27_Lkd ⟨rfl, ot, rfl, ot, rfl, ot, trivial⟩ rfl rfl) (by exact trivial) (by intro h; cases h) ?_
        refine AD.one (i := 16) (by kernel_rfl) ?_
        refine AStep.store (k := 0) (cs' := [_, _, _]) rfl (wants_plain rfl) rfl rfl ot rfl rfl ot rfl rfl Tryd.sizeOf27 rfl rfl rfl (by intro b hb; simp [bks, St.put] at hb ⊢; try first | exact hb | simp [hb] | (rcases hb with hb | hb <;> simp [hb]) | (rcases hb with hb | hb | hb <;> simp [hb])) ?_
        refine AD.wk (y := ⟨19, [(2, _)], [⟨b2, 27, 3, [_, _, _]⟩, ⟨b1, 44, 3, [_, _, _]⟩]⟩) (Wk.as_ rfl rfl ⟨lk, trivial⟩) rfl ?_
        refine AD.done (by kernel_rfl) ?_
        exact ⟨rfl, trivial, Wk.refl _⟩
      · skip
        refine AStep.callP rfl (wants_plain rfl) rfl rfl rfl Tryd.call14 (picked_vp _ x.c 5 hx.c1 hx.c2 (by decide)) ⟨ot, opd_const, trivial⟩ ?_
        refine AD.take (i := 14) rfl (by kernel_rfl) (by kernel_rfl) (by kernel_rfl) (by repeat (first | exact NP.norm | exact NP.body | apply NP.then | apply NP.cut | apply NP.inBlock | apply NP.round)) (wants_plain rfl) rfl (still_bin rfl opd_const ot (bin_add (wrap_i64 (by omega) (by omega)))) (by exact trivial) (by intro h; cases h) ?_
        refine AD.one (i := 10) (by kernel_rfl) ?_
        refine AStep.still rfl (wants_plain rfl) rfl (still_ofBytes (bs := [byteW x.b]) rfl ot Tryd.underlying69 Tryd.underlying5 Tryd.underlying9) ?_
        refine AD.take (i := 15) rfl (by kernel_rfl) (by kernel_rfl) (by kernel_rfl) (by repeat (first | exact NP.norm | exact NP.body | apply NP.then | apply NP.cut | apply NP.inBlock | apply NP.round)) (wants_plain rfl) rfl (still_bld (pl := [(0, _), (1, _), (2, _)]) (ds := [_, _, _]) rfl Tryd.zeroValue27 Tryd.runUnderlying27 places27_Lkd ⟨rfl, ot, rfl, ot, rfl, ot, trivial⟩ rfl rfl) (by exact trivial) (by intro h; cases h) ?_
        refine AD.one (i := 16) (by kernel_rfl) ?_
        refine AStep.store (k := 0) (cs' := [_, _, _]) rfl (wants_plain rfl) rfl rfl ot rfl rfl ot rfl rfl Tryd.sizeOf27 rfl rfl rfl (by intro b hb; simp [bks, St.put] at hb ⊢; try first | exact hb | simp [hb] | (rcases hb with hb | hb <;> simp [hb]) | (rcases hb with hb | hb | hb <;> simp [hb])) ?_
        refine AD.wk (y := ⟨19, [(2, _)], [⟨b2, 27, 3, [_, _, _]⟩, ⟨b1, 44, 3, [_, _, _]⟩]⟩) (Wk.as_ rfl rfl ⟨lk, trivial⟩) rfl ?_
        refine AD.done (by kernel_rfl) ?_
        exact ⟨rfl, trivial, Wk.refl _⟩
    · skip
      refine AStep.callP rfl (wants_plain rfl) rfl rfl rfl Tryd.call14 (picked_vp _ x.c 5 hx.c1 hx.c2 (by decide)) ⟨ot, opd_const, trivial⟩ ?_
      refine AD.take (i := 14) rfl (by kernel_rfl) (by kernel_rfl) (by kernel_rfl) (by repeat (first | exact NP.norm | exact NP.body | apply NP.then | apply NP.cut | apply NP.inBlock | apply NP.round)) (wants_plain rfl) rfl (still_bin rfl opd_const ot (bin_add (wrap_i64 (by omega) (by omega)))) (by exact trivial) (by intro h; cases h) ?_
      refine AD.one (i := 9) (by kernel_rfl) ?_
      refine AStep.bldS (pl := [(0, _)]) (zvs := [.int .u8 0]) (ds := [_]) rfl (wants_plain rfl) rfl rfl Tryd.zeroValue5 Tryd.runUnderlying69 Tryd.sizeOf5 rfl rfl (by kernel_rfl) ⟨rfl, ot, trivial⟩ rfl rfl (fun b12 => ?_)
      refine AD.give (k := 0) (t := 12) (sz := 1) (m := 1) rfl lk rfl rfl rfl (Nat.le_refl _) (by decide) ?_
      refine AD.one (i := 10) (by kernel_rfl) ?_
      refine AStep.still rfl (wants_plain rfl) rfl (still_ofBytes (bs := [byteW x.b]) rfl ot Tryd.underlying69 Tryd.underlying5 Tryd.underlying9) ?_
      refine AD.take (i := 15) rfl (by kernel_rfl) (by kernel_rfl) (by kernel_rfl) (by repeat (first | exact NP.norm | exact NP.body | apply NP.then | apply NP.cut | apply NP.inBlock | apply NP.round)) (wants_plain rfl) rfl (still_bld (pl := [(0, _), (1, _), (2, _)]) (ds := [_, _, _]) rfl Tryd.zeroValue27 Tryd.runUnderlying27 places27_Lkd ⟨rfl, ot, rfl, ot, rfl, ot, trivial⟩ rfl rfl) (by exact trivial) (by intro h; cases h) ?_
      refine AD.one (i := 16) (by kernel_rfl) ?_
      refine AStep.store (k := 0) (cs' := [_, _, _]) rfl (wants_plain rfl) rfl rfl ot rfl rfl ot rfl rfl Tryd.sizeOf27 rfl rfl rfl (by intro b hb; simp [bks, St.put] at hb ⊢; try first | exact hb | simp [hb] | (rcases hb with hb | hb <;> simp [hb]) | (rcases hb with hb | hb | hb <;> simp [hb])) ?_
      refine AD.wk (y := ⟨19, [(2, _)], [⟨b2, 27, 3, [_, _, _]⟩, ⟨b1, 44, 3, [_, _, _]⟩]⟩) (Wk.as_ rfl rfl ⟨lk, trivial⟩) rfl ?_
      refine AD.done (by kernel_rfl) ?_
      exact ⟨rfl, trivial, Wk.refl _⟩
  · skip
    rintro _ _ ⟨rfl, _, hwk__⟩
    refine CD.wk hwk__ ?_
    refine CD.ret ?_
    refine ⟨.inr rfl, _, [], List.nil_sublist _, ret_one Tryd.results21 (res_cells (k := 0) (ds := [_, _, _]) (Nat.le_of_ble_eq_true rfl) lk rfl rfl Tryd.isAgg27 Tryd.sizeOf27 rfl rfl), ?_⟩
    exact ⟨rfl, rfl⟩

set_option maxHeartbeats 4000000 in
set_option maxRecDepth 100000 in
theorem locks_vp (l : List W3) (hok : ∀ x ∈ l, x.Ok) : VP Tryd.prog TG 16 [.list 3 (l.flatMap cW) l.length] (locksS (locksF l).1 (locksF l).2) := by
  refine VC.body Tryd.func16 rfl Tryd.ntmps16 (Nat.le_of_ble_eq_true rfl) fun X0 w0 S00 => ?_
  refine CD.seq ?_
  refine CD.region ?_
  refine OD.alloc (ds := [_, _]) (wants_plain rfl) rfl rfl Tryd.zeroValue25 rfl (fun b2 => ?_)
  refine OD.wk (Wk.as_ (n := 55) (l' := [(0, _), (2, _)]) (S' := [⟨b2, 25, 2, [_, _]⟩]) rfl rfl ⟨lk, lk, trivial⟩) ?_
  refine OD.nil ?_
  refine CD.seq ?_
  refine CD.region ?_
  refine OD.alloc (ds := [_, _]) (wants_plain rfl) rfl rfl Tryd.zeroValue25 rfl (fun b3 => ?_)
  refine OD.wk (Wk.as_ (n := 55) (l' := [(0, _), (2, _), (3, _)]) (S' := [⟨b3, 25, 2, [_, _]⟩, ⟨b2, 25, 2, [_, _]⟩]) rfl rfl ⟨lk, lk, lk, trivial⟩) ?_
  refine OD.nil ?_
  refine CD.seq ?_
  refine CD.seq ?_
  refine CD.region ?_
  refine OD.wk cover_nil ?_
  refine OD.still (wants_plain rfl) rfl (still_as rfl opd_const) ?_
  refine OD.wk (Wk.as_ (n := 55) (l' := [(0, _), (2, _), (3, _), (4, _)]) (S' := [⟨b3, 25, 2, [_, _]⟩, ⟨b2, 25, 2, [_, _]⟩]) rfl rfl ⟨lk, lk, lk, lk, trivial⟩) ?_
  refine OD.nil ?_
  refine CD.block ?_
  refine CD.wk (Wk.asS (n := 55) (l' := [(0, .list 3 (l.flatMap cW) l.length), (2, .v (.pointer (some ⟨b2, 0, none⟩))), (3, .v (.pointer (some ⟨b3, 0, none⟩))), (4, .v (.int .i64 ((0) : Nat)))]) (S' := [⟨b3, 25, 2, [locksD ([]), locksD ([])]⟩, ⟨b2, 25, 2, [.v (.slice none 0 0), .v (.slice none 0 0)]⟩]) rfl (by repeat (first | exact List.Sublist.refl _ | apply List.Sublist.cons)) ⟨(by (repeat (first | exact look_hit | (apply look_at; focus (first | rfl | (simp; done) | (congr 2; omega))) | (apply look_miss; focus rfl))); done), (by (repeat (first | exact look_hit | (apply look_at; focus (first | rfl | (simp; done) | (congr 2; omega))) | (apply look_miss; focus rfl))); done), (by (repeat (first | exact look_hit | (apply look_at; focus (first | rfl | (simp; done) | (congr 2; omega))) | (apply look_miss; focus rfl))); done), (by (repeat (first | exact look_hit | (apply look_at; focus (first | rfl | (simp; done) | (congr 2; omega))) | (apply look_miss; focus rfl))); done), trivial⟩) (CD.loop (fun (gh__ : Nat × List L × List L) y__ => match gh__ with | (k, h, q) => (k ≤ l.length) ∧ (k ≤ 40) ∧ (Good h q) ∧ ((l.take k).foldl stepF ([], []) = (h, q)) ∧ y__ = (⟨55, [(0, .list 3 (l.flatMap cW) l.length), (2, .v (.pointer (some ⟨b2, 0, none⟩))), (3, .v (.pointer (some ⟨b3, 0, none⟩))), (4, .v (.int .i64 (k : Nat)))], [⟨b3, 25, 2, [locksD h, locksD q]⟩, ⟨b2, 25, 2, [.v (.slice none 0 0), .v (.slice none 0 0)]⟩]⟩ : St)) (fun (gh__ : Nat × List L × List L) => match gh__ with | (k, h, q) => 40 - k) (0, [], []) ⟨(Nat.zero_le _), (by omega), good_nil, rfl, rfl⟩ ?_)
  rintro ⟨k, h, q⟩ _ ⟨hk, hk40, g, hst, rfl⟩
  refine CD.seq ?_
  refine CD.seq ?_
  refine CD.region ?_
  rcases (show (k < l.length ∧ k < 40) ∨ ¬ k < l.length ∨ (k < l.length ∧ ¬ k < 40) by omega) with hr | hr | hr
  · skip
    refine OD.still (wants_plain rfl) rfl (still_mv rfl ot) ?_
    refine OD.still (wants_plain rfl) rfl (still_mv rfl ot) ?_
    refine OD.still (wants_plain rfl) rfl (still_r1 (mk := fun y => .call { callee := .builtin .len, args := #[y], argTypes := #[32] }) rfl ot (by first | exact len_list rfl Tryd.runUnderlying32 | exact len_row rfl Tryd.runUnderlying32)) ?_
    refine OD.still (wants_plain rfl) rfl (still_bin rfl ot ot bin_lss) ?_
    refine OD.still (wants_plain rfl) rfl (still_mv rfl ot) ?_
    refine OD.split (t := 16) lk (fun hg16 => ?_) (fun hg16 => ?_)
    · have hg16' := hg16; (try simp only [decide_eq_true_eq, decide_eq_false_iff_not, beq_iff_eq, bne_iff_ne, Bool.not_eq_true', Bool.not_eq_false', Bool.not_eq_true, Bool.not_eq_false, beq_eq_false_iff_ne, ne_eq, bne_eq_false_iff_eq, Bool.and_eq_true, Bool.or_eq_true, Bool.not_not] at hg16')
      refine OD.still (wants_T rfl rfl rfl lk (by first | rfl | assumption)) rfl (still_mv rfl ot) ?_
      refine OD.still (wants_T rfl rfl rfl lk (by first | rfl | assumption)) rfl (still_bin rfl ot opd_const bin_lss) ?_
      refine OD.still (wants_plain rfl) rfl (still_pickT rfl ot (by first | rfl | assumption) ot) ?_
      refine OD.wk (Wk.as_ (n := 55) (l' := [(0, _), (2, _), (3, _), (4, _), (19, _)]) (S' := [⟨b3, 25, 2, [_, _]⟩, ⟨b2, 25, 2, [_, _]⟩]) rfl rfl ⟨lk, lk, lk, lk, lk, trivial⟩) ?_
      refine OD.nil ?_
      refine CD.cond ot (fun hc0 => ?_) (fun hc0 => ?_)
      · have hc0' := hc0
        (try simp only [decide_eq_true_eq, decide_eq_false_iff_not, beq_iff_eq, bne_iff_ne, Bool.not_eq_true', Bool.not_eq_false', Bool.not_eq_true, Bool.not_eq_false, beq_eq_false_iff_ne, ne_eq, bne_eq_false_iff_eq, Bool.and_eq_true, Bool.or_eq_true, Bool.not_not, Bool.and_eq_false_iff, Bool.or_eq_false_iff, Int.not_lt, Int.not_le] at hc0')
        refine CD.skip ?_
        refine CD.seq ?_
        refine CD.block ?_
        refine CD.seq ?_
        refine CD.region ?_
        refine OD.still (wants_plain rfl) rfl (still_mv rfl ot) ?_
        refine OD.still (wants_plain rfl) rfl (still_mv rfl ot) ?_
        refine OD.still (wants_plain rfl) rfl (still_r2 (mk := Op.indexAddr 32) rfl ot ot (by first | exact ix_list Tryd.runUnderlying32 Tryd.sizeOf44 rfl (by first | assumption | omega) | exact ix_list (j := Int.toNat _) Tryd.runUnderlying32 Tryd.sizeOf44 (Int.toNat_of_nonneg (by omega)).symm (by omega) | exact ix_row Tryd.runUnderlying32 Tryd.sizeOf44 rfl (by first | assumption | omega) | exact ix_row (j := Int.toNat _) Tryd.runUnderlying32 Tryd.sizeOf44 (Int.toNat_of_nonneg (by omega)).symm (by omega))) ?_
        refine OD.still (wants_plain rfl) rfl (still_r1 (mk := Op.load 44) rfl ot (by first | exact ld_blks (k := 0) (ds := [_, _, _]) rfl rfl Tryd.isAgg44 Tryd.sizeOf44 rfl rfl | exact ld_blks (k := 1) (ds := [_, _, _]) rfl rfl Tryd.isAgg44 Tryd.sizeOf44 rfl rfl | exact ld_fms cW_len Tryd.isAgg44 Tryd.sizeOf44 (by first | assumption | omega) | exact ld_fms cL_len Tryd.isAgg44 Tryd.sizeOf44 (by first | assumption | omega) | exact ld_rows (k := 0) cW_len rfl rfl rfl Tryd.isAgg44 Tryd.sizeOf44 (by first | assumption | omega) | exact ld_rows (k := 1) cW_len rfl rfl rfl Tryd.isAgg44 Tryd.sizeOf44 (by first | assumption | omega) | exact ld_rows (k := 0) cL_len rfl rfl rfl Tryd.isAgg44 Tryd.sizeOf44 (by first | assumption | omega) | exact ld_rows (k := 1) cL_len rfl rfl rfl Tryd.isAgg44 Tryd.sizeOf44 (by first | assumption | omega) | exact ld_is (ds := [_, _, _]) Tryd.isAgg44 Tryd.sizeOf44 rfl rfl)) ?_
        refine OD.callP (wants_plain rfl) rfl rfl rfl Tryd.call21 (lockOf_vp _ l[k] (hok _ (List.getElem_mem hr.1))) ⟨ot, trivial⟩ ?_
        refine OD.alloc (ds := [_, _, _]) (wants_plain rfl) rfl rfl Tryd.zeroValue27 rfl (fun b5 => ?_)
        refine OD.store (k := 0) (cs' := [_, _, _]) (wants_plain rfl) rfl rfl ot rfl rfl ot rfl rfl Tryd.sizeOf27 rfl rfl rfl ?_
        refine OD.wk (Wk.as_ (n := 55) (l' := [(0, _), (2, _), (3, _), (4, _), (5, _)]) (S' := [⟨b5, 27, 3, [_, _, _]⟩, ⟨b3, 25, 2, [_, _]⟩, ⟨b2, 25, 2, [_, _]⟩]) rfl rfl ⟨lk, lk, lk, lk, lk, trivial⟩) ?_
        refine OD.nil ?_
        refine CD.seq ?_
        refine CD.seq ?_
        refine CD.region ?_
        refine OD.still (wants_plain rfl) rfl (still_mv rfl ot) ?_
        refine OD.still (wants_plain rfl) rfl (still_mv rfl ot) ?_
        refine OD.still (wants_plain rfl) rfl (still_r2 (mk := Op.indexAddr 32) rfl ot ot (by first | exact ix_list Tryd.runUnderlying32 Tryd.sizeOf44 rfl (by first | assumption | omega) | exact ix_list (j := Int.toNat _) Tryd.runUnderlying32 Tryd.sizeOf44 (Int.toNat_of_nonneg (by omega)).symm (by omega) | exact ix_row Tryd.runUnderlying32 Tryd.sizeOf44 rfl (by first | assumption | omega) | exact ix_row (j := Int.toNat _) Tryd.runUnderlying32 Tryd.sizeOf44 (Int.toNat_of_nonneg (by omega)).symm (by omega))) ?_
        refine OD.still (wants_plain rfl) rfl (still_r1 (mk := fun y => Op.fieldAddr 44 y 0) rfl ot (by first | exact fa_ptr (off := 0) Tryd.runUnderlying44 rfl Tryd.sizeOf3 rfl | exact fa_iptr (off := 0) Tryd.runUnderlying44 rfl Tryd.sizeOf3 rfl)) ?_
        refine OD.still (wants_plain rfl) rfl (still_r1 (mk := Op.load 3) rfl ot (by first | exact ld_blk (k := 0) rfl rfl Tryd.isAgg3 rfl | exact ld_blk (k := 1) rfl rfl Tryd.isAgg3 rfl | exact ld_blk (k := 2) rfl rfl Tryd.isAgg3 rfl | exact ld_fm cW_len Tryd.isAgg3 (by first | assumption | omega) rfl | exact ld_fm0 cW_len Tryd.isAgg3 (by first | assumption | omega) rfl | exact ld_fm cL_len Tryd.isAgg3 (by first | assumption | omega) rfl | exact ld_fm0 cL_len Tryd.isAgg3 (by first | assumption | omega) rfl | exact ld_row (k := 0) cW_len rfl rfl rfl Tryd.isAgg3 (by first | assumption | omega) rfl | exact ld_row0 (k := 0) cW_len rfl rfl rfl Tryd.isAgg3 (by first | assumption | omega) rfl | exact ld_row (k := 1) cW_len rfl rfl rfl Tryd.isAgg3 (by first | assumption | omega) rfl | exact ld_row0 (k := 1) cW_len rfl rfl rfl Tryd.isAgg3 (by first | assumption | omega) rfl | exact ld_row (k := 2) cW_len rfl rfl rfl Tryd.isAgg3 (by first | assumption | omega) rfl | exact ld_row0 (k := 2) cW_len rfl rfl rfl Tryd.isAgg3 (by first | assumption | omega) rfl | exact ld_row (k := 0) cL_len rfl rfl rfl Tryd.isAgg3 (by first | assumption | omega) rfl | exact ld_row0 (k := 0) cL_len rfl rfl rfl Tryd.isAgg3 (by first | assumption | omega) rfl | exact ld_row (k := 1) cL_len rfl rfl rfl Tryd.isAgg3 (by first | assumption | omega) rfl | exact ld_row0 (k := 1) cL_len rfl rfl rfl Tryd.isAgg3 (by first | assumption | omega) rfl | exact ld_row (k := 2) cL_len rfl rfl rfl Tryd.isAgg3 (by first | assumption | omega) rfl | exact ld_row0 (k := 2) cL_len rfl rfl rfl Tryd.isAgg3 (by first | assumption | omega) rfl | exact ld_i Tryd.isAgg3 rfl)) ?_
        refine OD.still (wants_plain rfl) rfl (still_bin rfl ot opd_const bin_lss) ?_
        refine OD.wk (Wk.as_ (n := 55) (l' := [(0, _), (2, _), (3, _), (4, _), (5, _), (32, _)]) (S' := [⟨b5, 27, 3, [_, _, _]⟩, ⟨b3, 25, 2, [_, _]⟩, ⟨b2, 25, 2, [_, _]⟩]) rfl rfl ⟨lk, lk, lk, lk, lk, lk, trivial⟩) ?_
        refine OD.nil ?_
        refine CD.cond ot (fun hc1 => ?_) (fun hc1 => ?_)
        · have hc1' := hc1
          (try simp only [decide_eq_true_eq, decide_eq_false_iff_not, beq_iff_eq, bne_iff_ne, Bool.not_eq_true', Bool.not_eq_false', Bool.not_eq_true, Bool.not_eq_false, beq_eq_false_iff_ne, ne_eq, bne_eq_false_iff_eq, Bool.and_eq_true, Bool.or_eq_true, Bool.not_not, Bool.and_eq_false_iff, Bool.or_eq_false_iff, Int.not_lt, Int.not_le] at hc1')
          have ha : l[k].a < 0 := by simpa using hc1
          obtain ⟨h', q', ws, e, hlv⟩ : ∃ h' q' ws e, leaveF h q (lockW l[k]).t = (h', q', ws, e) := ⟨_, _, _, _, rfl⟩
          refine CD.seq ?_
          refine CD.region ?_
          refine OD.still (wants_plain rfl) rfl (still_r1 (mk := Op.load 25) rfl ot (by first | exact ld_blks (k := 1) (ds := [_, _]) rfl rfl Tryd.isAgg25 Tryd.sizeOf25 rfl rfl | exact ld_fms cW_len Tryd.isAgg25 Tryd.sizeOf25 (by first | assumption | omega) | exact ld_fms cL_len Tryd.isAgg25 Tryd.sizeOf25 (by first | assumption | omega) | exact ld_rows (k := 0) cW_len rfl rfl rfl Tryd.isAgg25 Tryd.sizeOf25 (by first | assumption | omega) | exact ld_rows (k := 1) cW_len rfl rfl rfl Tryd.isAgg25 Tryd.sizeOf25 (by first | assumption | omega) | exact ld_rows (k := 2) cW_len rfl rfl rfl Tryd.isAgg25 Tryd.sizeOf25 (by first | assumption | omega) | exact ld_rows (k := 0) cL_len rfl rfl rfl Tryd.isAgg25 Tryd.sizeOf25 (by first | assumption | omega) | exact ld_rows (k := 1) cL_len rfl rfl rfl Tryd.isAgg25 Tryd.sizeOf25 (by first | assumption | omega) | exact ld_rows (k := 2) cL_len rfl rfl rfl Tryd.isAgg25 Tryd.sizeOf25 (by first | assumption | omega) | exact ld_is (ds := [_, _]) Tryd.isAgg25 Tryd.sizeOf25 rfl rfl)) ?_
          refine OD.still (wants_plain rfl) rfl (still_r1 (mk := fun y => Op.fieldAddr 27 y 0) rfl ot (by first | exact fa_ptr (off := 0) Tryd.runUnderlying27 rfl Tryd.sizeOf3 rfl | exact fa_iptr (off := 0) Tryd.runUnderlying27 rfl Tryd.sizeOf3 rfl)) ?_
          refine OD.still (wants_plain rfl) rfl (still_r1 (mk := Op.load 3) rfl ot (by first | exact ld_blk (k := 0) rfl rfl Tryd.isAgg3 rfl | exact ld_fm cW_len Tryd.isAgg3 (by first | assumption | omega) rfl | exact ld_fm0 cW_len Tryd.isAgg3 (by first | assumption | omega) rfl | exact ld_fm cL_len Tryd.isAgg3 (by first | assumption | omega) rfl | exact ld_fm0 cL_len Tryd.isAgg3 (by first | assumption | omega) rfl | exact ld_row (k := 0) cW_len rfl rfl rfl Tryd.isAgg3 (by first | assumption | omega) rfl | exact ld_row0 (k := 0) cW_len rfl rfl rfl Tryd.isAgg3 (by first | assumption | omega) rfl | exact ld_row (k := 1) cW_len rfl rfl rfl Tryd.isAgg3 (by first | assumption | omega) rfl | exact ld_row0 (k := 1) cW_len rfl rfl rfl Tryd.isAgg3 (by first | assumption | omega) rfl | exact ld_row (k := 2) cW_len rfl rfl rfl Tryd.isAgg3 (by first | assumption | omega) rfl | exact ld_row0 (k := 2) cW_len rfl rfl rfl Tryd.isAgg3 (by first | assumption | omega) rfl | exact ld_row (k := 0) cL_len rfl rfl rfl Tryd.isAgg3 (by first | assumption | omega) rfl | exact ld_row0 (k := 0) cL_len rfl rfl rfl Tryd.isAgg3 (by first | assumption | omega) rfl | exact ld_row (k := 1) cL_len rfl rfl rfl Tryd.isAgg3 (by first | assumption | omega) rfl | exact ld_row0 (k := 1) cL_len rfl rfl rfl Tryd.isAgg3 (by first | assumption | omega) rfl | exact ld_row (k := 2) cL_len rfl rfl rfl Tryd.isAgg3 (by first | assumption | omega) rfl | exact ld_row0 (k := 2) cL_len rfl rfl rfl Tryd.isAgg3 (by first | assumption | omega) rfl | exact ld_i Tryd.isAgg3 rfl)) ?_
          refine OD.callP (wants_plain rfl) rfl rfl rfl Tryd.call17 (leave_vp g hlv) ⟨ot, ot, trivial⟩ ?_
          refine OD.still (wants_plain rfl) rfl (still_mv rfl ot) ?_
          refine OD.still (wants_plain rfl) rfl (still_extract rfl ot rfl) ?_
          refine OD.still (wants_plain rfl) rfl (still_extract rfl ot rfl) ?_
          refine OD.still (wants_plain rfl) rfl (still_extract rfl ot rfl) ?_
          refine OD.alloc (ds := [_, _]) (wants_plain rfl) rfl rfl Tryd.zeroValue25 rfl (fun b6 => ?_)
          refine OD.store (k := 0) (cs' := [_, _]) (wants_plain rfl) rfl rfl ot rfl rfl ot rfl rfl Tryd.sizeOf25 rfl rfl rfl ?_
          refine OD.still (wants_plain rfl) rfl (still_as rfl ot) ?_
          refine OD.still (wants_plain rfl) rfl (still_as rfl ot) ?_
          refine OD.wk (Wk.as_ (n := 55) (l' := [(0, _), (2, _), (3, _), (4, _), (6, _), (8, _)]) (S' := [⟨b6, 25, 2, [_, _]⟩, ⟨b5, 27, 3, [_, _, _]⟩, ⟨b3, 25, 2, [_, _]⟩, ⟨b2, 25, 2, [_, _]⟩]) rfl rfl ⟨lk, lk, lk, lk, lk, lk, trivial⟩) ?_
          refine OD.nil ?_
          refine CD.seq ?_
          refine CD.seq ?_
          refine CD.region ?_
          refine OD.still (wants_plain rfl) rfl (still_mv rfl ot) ?_
          refine OD.still (wants_plain rfl) rfl (still_bin rfl ot opd_const bin_eql) ?_
          refine OD.wk (Wk.as_ (n := 55) (l' := [(0, _), (2, _), (3, _), (4, _), (6, _), (42, _)]) (S' := [⟨b6, 25, 2, [_, _]⟩, ⟨b5, 27, 3, [_, _, _]⟩, ⟨b3, 25, 2, [_, _]⟩, ⟨b2, 25, 2, [_, _]⟩]) rfl rfl ⟨lk, lk, lk, lk, lk, lk, trivial⟩) ?_
          refine OD.nil ?_
          refine CD.cond ot (fun hc2 => ?_) (fun hc2 => ?_)
          · have hc2' := hc2
            (try simp only [decide_eq_true_eq, decide_eq_false_iff_not, beq_iff_eq, bne_iff_ne, Bool.not_eq_true', Bool.not_eq_false', Bool.not_eq_true, Bool.not_eq_false, beq_eq_false_iff_ne, ne_eq, bne_eq_false_iff_eq, Bool.and_eq_true, Bool.or_eq_true, Bool.not_not, Bool.and_eq_false_iff, Bool.or_eq_false_iff, Int.not_lt, Int.not_le] at hc2')
            have he : e = 0 := by simpa using hc2
            refine CD.region ?_
            refine OD.still (wants_plain rfl) rfl (still_r1 (mk := Op.load 25) rfl ot (by first | exact ld_blks (k := 0) (ds := [_, _]) rfl rfl Tryd.isAgg25 Tryd.sizeOf25 rfl rfl | exact ld_fms cW_len Tryd.isAgg25 Tryd.sizeOf25 (by first | assumption | omega) | exact ld_fms cL_len Tryd.isAgg25 Tryd.sizeOf25 (by first | assumption | omega) | exact ld_rows (k := 0) cW_len rfl rfl rfl Tryd.isAgg25 Tryd.sizeOf25 (by first | assumption | omega) | exact ld_rows (k := 1) cW_len rfl rfl rfl Tryd.isAgg25 Tryd.sizeOf25 (by first | assumption | omega) | exact ld_rows (k := 2) cW_len rfl rfl rfl Tryd.isAgg25 Tryd.sizeOf25 (by first | assumption | omega) | exact ld_rows (k := 3) cW_len rfl rfl rfl Tryd.isAgg25 Tryd.sizeOf25 (by first | assumption | omega) | exact ld_rows (k := 0) cL_len rfl rfl rfl Tryd.isAgg25 Tryd.sizeOf25 (by first | assumption | omega) | exact ld_rows (k := 1) cL_len rfl rfl rfl Tryd.isAgg25 Tryd.sizeOf25 (by first | assumption | omega) | exact ld_rows (k := 2) cL_len rfl rfl rfl Tryd.isAgg25 Tryd.sizeOf25 (by first | assumption | omega) | exact ld_rows (k := 3) cL_len rfl rfl rfl Tryd.isAgg25 Tryd.sizeOf25 (by first | assumption | omega) | exact ld_is (ds := [_, _]) Tryd.isAgg25 Tryd.sizeOf25 rfl rfl)) ?_
            refine OD.store (k := 2) (cs' := [_, _]) (wants_plain rfl) rfl rfl ot rfl rfl ot rfl rfl Tryd.sizeOf25 rfl rfl rfl ?_
            refine OD.wk (Wk.as_ (n := 55) (l' := [(0, _), (2, _), (3, _), (4, _)]) (S' := [⟨b6, 25, 2, [_, _]⟩, ⟨b5, 27, 3, [_, _, _]⟩, ⟨b3, 25, 2, [_, _]⟩, ⟨b2, 25, 2, [_, _]⟩]) rfl rfl ⟨lk, lk, lk, lk, trivial⟩) ?_
            refine OD.nil ?_
            refine CD.exit ?_
            refine CD.region ?_
            refine OD.still (wants_plain rfl) rfl (still_mv rfl ot) ?_
            refine OD.still (wants_plain rfl) rfl (still_bin rfl ot opd_const (bin_add (wrap_i64 (by omega) (by omega)))) ?_
            refine OD.still (wants_plain rfl) rfl (still_as rfl ot) ?_
            refine OD.wk (Wk.as_ (n := 55) (l' := [(0, _), (2, _), (3, _), (4, _)]) (S' := [⟨b6, 25, 2, [_, _]⟩, ⟨b5, 27, 3, [_, _, _]⟩, ⟨b3, 25, 2, [_, _]⟩, ⟨b2, 25, 2, [_, _]⟩]) rfl rfl ⟨lk, lk, lk, lk, trivial⟩) ?_
            refine OD.nil ?_
            refine ⟨((k + 1), h', q'), ⟨55, [(0, .list 3 (l.flatMap cW) l.length), (2, .v (.pointer (some ⟨b2, 0, none⟩))), (3, .v (.pointer (some ⟨b3, 0, none⟩))), (4, .v (.int .i64 (((k + 1)) : Nat)))], [⟨b3, 25, 2, [locksD (h'), locksD (q')]⟩, ⟨b2, 25, 2, [.v (.slice none 0 0), .v (.slice none 0 0)]⟩]⟩, ?_, Wk.asS (n := 55) rfl (by repeat (first | exact List.Sublist.refl _ | apply List.Sublist.cons)) ⟨(by (repeat (first | exact look_hit | (apply look_at; focus (first | rfl | (simp; done) | (congr 2; omega))) | (apply look_miss; focus rfl))); done), (by (repeat (first | exact look_hit | (apply look_at; focus (first | rfl | (simp; done) | (congr 2; omega))) | (apply look_miss; focus rfl))); done), (by (repeat (first | exact look_hit | (apply look_at; focus (first | rfl | (simp; done) | (congr 2; omega))) | (apply look_miss; focus rfl))); done), (by (repeat (first | exact look_hit | (apply look_at; focus (first | rfl | (simp; done) | (congr 2; omega))) | (apply look_miss; focus rfl))); done), trivial⟩, (by omega), (by omega), (leave_good g hlv), (by rw [take_step hr.1, hst]; unfold stepF; first | (rw [if_pos ha, hlv]; simp only []; first | rw [if_pos he] | rw [if_neg he]) | (rw [if_neg ha, hlv]; simp only []; first | rw [if_pos he] | rw [if_neg he])), rfl⟩
            first | omega | (simp only []; omega)
          · have hc2' := hc2
            (try simp only [decide_eq_true_eq, decide_eq_false_iff_not, beq_iff_eq, bne_iff_ne, Bool.not_eq_true', Bool.not_eq_false', Bool.not_eq_true, Bool.not_eq_false, beq_eq_false_iff_ne, ne_eq, bne_eq_false_iff_eq, Bool.and_eq_true, Bool.or_eq_true, Bool.not_not, Bool.and_eq_false_iff, Bool.or_eq_false_iff, Int.not_lt, Int.not_le] at hc2')
            have he : ¬ e = 0 := by simpa using hc2
            refine CD.skip ?_
            refine CD.exit ?_
            refine CD.region ?_
            refine OD.still (wants_plain rfl) rfl (still_mv rfl ot) ?_
            refine OD.still (wants_plain rfl) rfl (still_bin rfl ot opd_const (bin_add (wrap_i64 (by omega) (by omega)))) ?_
            refine OD.still (wants_plain rfl) rfl (still_as rfl ot) ?_
            refine OD.wk (Wk.as_ (n := 55) (l' := [(0, _), (2, _), (3, _), (4, _)]) (S' := [⟨b6, 25, 2, [_, _]⟩, ⟨b5, 27, 3, [_, _, _]⟩, ⟨b3, 25, 2, [_, _]⟩, ⟨b2, 25, 2, [_, _]⟩]) rfl rfl ⟨lk, lk, lk, lk, trivial⟩) ?_
            refine OD.nil ?_
            refine ⟨((k + 1), h, q), ⟨55, [(0, .list 3 (l.flatMap cW) l.length), (2, .v (.pointer (some ⟨b2, 0, none⟩))), (3, .v (.pointer (some ⟨b3, 0, none⟩))), (4, .v (.int .i64 (((k + 1)) : Nat)))], [⟨b3, 25, 2, [locksD h, locksD q]⟩, ⟨b2, 25, 2, [.v (.slice none 0 0), .v (.slice none 0 0)]⟩]⟩, ?_, Wk.asS (n := 55) rfl (by repeat (first | exact List.Sublist.refl _ | apply List.Sublist.cons)) ⟨(by (repeat (first | exact look_hit | (apply look_at; focus (first | rfl | (simp; done) | (congr 2; omega))) | (apply look_miss; focus rfl))); done), (by (repeat (first | exact look_hit | (apply look_at; focus (first | rfl | (simp; done) | (congr 2; omega))) | (apply look_miss; focus rfl))); done), (by (repeat (first | exact look_hit | (apply look_at; focus (first | rfl | (simp; done) | (congr 2; omega))) | (apply look_miss; focus rfl))); done), (by (repeat (first | exact look_hit | (apply look_at; focus (first | rfl | (simp; done) | (congr 2; omega))) | (apply look_miss; focus rfl))); done), trivial⟩, (by omega), (by omega), g, (by rw [take_step hr.1, hst]; unfold stepF; first | (rw [if_pos ha, hlv]; simp only []; first | rw [if_pos he] | rw [if_neg he]) | (rw [if_neg ha, hlv]; simp only []; first | rw [if_pos he] | rw [if_neg he])), rfl⟩
            first | omega | (simp only []; omega)
        · have hc1' := hc1
          (try simp only [decide_eq_true_eq, decide_eq_false_iff_not, beq_iff_eq, bne_iff_ne, Bool.not_eq_true', Bool.not_eq_false', Bool.not_eq_true, Bool.not_eq_false, beq_eq_false_iff_ne, ne_eq, bne_eq_false_iff_eq, Bool.and_eq_true, Bool.or_eq_true, Bool.not_not, Bool.and_eq_false_iff, Bool.or_eq_false_iff, Int.not_lt, Int.not_le] at hc1')
          have ha : ¬ l[k].a < 0 := by simpa using hc1
          obtain ⟨h', q', b, e, hlv⟩ : ∃ h' q' b e, askF h q (lockW l[k]) = (h', q', b, e) := ⟨_, _, _, _, rfl⟩
          refine CD.skip ?_
          refine CD.seq ?_
          refine CD.region ?_
          refine OD.still (wants_plain rfl) rfl (still_r1 (mk := Op.load 25) rfl ot (by first | exact ld_blks (k := 1) (ds := [_, _]) rfl rfl Tryd.isAgg25 Tryd.sizeOf25 rfl rfl | exact ld_fms cW_len Tryd.isAgg25 Tryd.sizeOf25 (by first | assumption | omega) | exact ld_fms cL_len Tryd.isAgg25 Tryd.sizeOf25 (by first | assumption | omega) | exact ld_rows (k := 0) cW_len rfl rfl rfl Tryd.isAgg25 Tryd.sizeOf25 (by first | assumption | omega) | exact ld_rows (k := 1) cW_len rfl rfl rfl Tryd.isAgg25 Tryd.sizeOf25 (by first | assumption | omega) | exact ld_rows (k := 2) cW_len rfl rfl rfl Tryd.isAgg25 Tryd.sizeOf25 (by first | assumption | omega) | exact ld_rows (k := 0) cL_len rfl rfl rfl Tryd.isAgg25 Tryd.sizeOf25 (by first | assumption | omega) | exact ld_rows (k := 1) cL_len rfl rfl rfl Tryd.isAgg25 Tryd.sizeOf25 (by first | assumption | omega) | exact ld_rows (k := 2) cL_len rfl rfl rfl Tryd.isAgg25 Tryd.sizeOf25 (by first | assumption | omega) | exact ld_is (ds := [_, _]) Tryd.isAgg25 Tryd.sizeOf25 rfl rfl)) ?_
          refine OD.still (wants_plain rfl) rfl (still_r1 (mk := Op.load 27) rfl ot (by first | exact ld_blks (k := 0) (ds := [_, _, _]) rfl rfl Tryd.isAgg27 Tryd.sizeOf27 rfl rfl | exact ld_fms cW_len Tryd.isAgg27 Tryd.sizeOf27 (by first | assumption | omega) | exact ld_fms cL_len Tryd.isAgg27 Tryd.sizeOf27 (by first | assumption | omega) | exact ld_rows (k := 0) cW_len rfl rfl rfl Tryd.isAgg27 Tryd.sizeOf27 (by first | assumption | omega) | exact ld_rows (k := 1) cW_len rfl rfl rfl Tryd.isAgg27 Tryd.sizeOf27 (by first | assumption | omega) | exact ld_rows (k := 2) cW_len rfl rfl rfl Tryd.isAgg27 Tryd.sizeOf27 (by first | assumption | omega) | exact ld_rows (k := 0) cL_len rfl rfl rfl Tryd.isAgg27 Tryd.sizeOf27 (by first | assumption | omega) | exact ld_rows (k := 1) cL_len rfl rfl rfl Tryd.isAgg27 Tryd.sizeOf27 (by first | assumption | omega) | exact ld_rows (k := 2) cL_len rfl rfl rfl Tryd.isAgg27 Tryd.sizeOf27 (by first | assumption | omega) | exact ld_is (ds := [_, _, _]) Tryd.isAgg27 Tryd.sizeOf27 rfl rfl)) ?_
          refine OD.callP (wants_plain rfl) rfl rfl rfl Tryd.call15 (ask_vp g hlv) ⟨ot, ot, trivial⟩ ?_
          refine OD.still (wants_plain rfl) rfl (still_mv rfl ot) ?_
          refine OD.still (wants_plain rfl) rfl (still_extract rfl ot rfl) ?_
          refine OD.still (wants_plain rfl) rfl (still_extract rfl ot rfl) ?_
          refine OD.still (wants_plain rfl) rfl (still_extract rfl ot rfl) ?_
          refine OD.alloc (ds := [_, _]) (wants_plain rfl) rfl rfl Tryd.zeroValue25 rfl (fun b9 => ?_)
          refine OD.store (k := 0) (cs' := [_, _]) (wants_plain rfl) rfl rfl ot rfl rfl ot rfl rfl Tryd.sizeOf25 rfl rfl rfl ?_
          refine OD.still (wants_plain rfl) rfl (still_as rfl ot) ?_
          refine OD.still (wants_plain rfl) rfl (still_as rfl ot) ?_
          refine OD.wk (Wk.as_ (n := 55) (l' := [(0, _), (2, _), (3, _), (4, _), (9, _), (11, _)]) (S' := [⟨b9, 25, 2, [_, _]⟩, ⟨b5, 27, 3, [_, _, _]⟩, ⟨b3, 25, 2, [_, _]⟩, ⟨b2, 25, 2, [_, _]⟩]) rfl rfl ⟨lk, lk, lk, lk, lk, lk, trivial⟩) ?_
          refine OD.nil ?_
          refine CD.seq ?_
          refine CD.region ?_
          refine OD.still (wants_plain rfl) rfl (still_mv rfl ot) ?_
          refine OD.still (wants_plain rfl) rfl (still_bin rfl ot opd_const bin_eql) ?_
          refine OD.wk (Wk.as_ (n := 55) (l' := [(0, _), (2, _), (3, _), (4, _), (9, _), (52, _)]) (S' := [⟨b9, 25, 2, [_, _]⟩, ⟨b5, 27, 3, [_, _, _]⟩, ⟨b3, 25, 2, [_, _]⟩, ⟨b2, 25, 2, [_, _]⟩]) rfl rfl ⟨lk, lk, lk, lk, lk, lk, trivial⟩) ?_
          refine OD.nil ?_
          refine CD.cond ot (fun hc3 => ?_) (fun hc3 => ?_)
          · have hc3' := hc3
            (try simp only [decide_eq_true_eq, decide_eq_false_iff_not, beq_iff_eq, bne_iff_ne, Bool.not_eq_true', Bool.not_eq_false', Bool.not_eq_true, Bool.not_eq_false, beq_eq_false_iff_ne, ne_eq, bne_eq_false_iff_eq, Bool.and_eq_true, Bool.or_eq_true, Bool.not_not, Bool.and_eq_false_iff, Bool.or_eq_false_iff, Int.not_lt, Int.not_le] at hc3')
            have he : e = 0 := by simpa using hc3
            refine CD.region ?_
            refine OD.still (wants_plain rfl) rfl (still_r1 (mk := Op.load 25) rfl ot (by first | exact ld_blks (k := 0) (ds := [_, _]) rfl rfl Tryd.isAgg25 Tryd.sizeOf25 rfl rfl | exact ld_fms cW_len Tryd.isAgg25 Tryd.sizeOf25 (by first | assumption | omega) | exact ld_fms cL_len Tryd.isAgg25 Tryd.sizeOf25 (by first | assumption | omega) | exact ld_rows (k := 0) cW_len rfl rfl rfl Tryd.isAgg25 Tryd.sizeOf25 (by first | assumption | omega) | exact ld_rows (k := 1) cW_len rfl rfl rfl Tryd.isAgg25 Tryd.sizeOf25 (by first | assumption | omega) | exact ld_rows (k := 2) cW_len rfl rfl rfl Tryd.isAgg25 Tryd.sizeOf25 (by first | assumption | omega) | exact ld_rows (k := 3) cW_len rfl rfl rfl Tryd.isAgg25 Tryd.sizeOf25 (by first | assumption | omega) | exact ld_rows (k := 0) cL_len rfl rfl rfl Tryd.isAgg25 Tryd.sizeOf25 (by first | assumption | omega) | exact ld_rows (k := 1) cL_len rfl rfl rfl Tryd.isAgg25 Tryd.sizeOf25 (by first | assumption | omega) | exact ld_rows (k := 2) cL_len rfl rfl rfl Tryd.isAgg25 Tryd.sizeOf25 (by first | assumption | omega) | exact ld_rows (k := 3) cL_len rfl rfl rfl Tryd.isAgg25 Tryd.sizeOf25 (by first | assumption | omega) | exact ld_is (ds := [_, _]) Tryd.isAgg25 Tryd.sizeOf25 rfl rfl)) ?_
            refine OD.store (k := 2) (cs' := [_, _]) (wants_plain rfl) rfl rfl ot rfl rfl ot rfl rfl Tryd.sizeOf25 rfl rfl rfl ?_
            refine OD.wk (Wk.as_ (n := 55) (l' := [(0, _), (2, _), (3, _), (4, _)]) (S' := [⟨b9, 25, 2, [_, _]⟩, ⟨b5, 27, 3, [_, _, _]⟩, ⟨b3, 25, 2, [_, _]⟩, ⟨b2, 25, 2, [_, _]⟩]) rfl rfl ⟨lk, lk, lk, lk, trivial⟩) ?_
            refine OD.nil ?_
            refine CD.region ?_
            refine OD.still (wants_plain rfl) rfl (still_mv rfl ot) ?_
            refine OD.still (wants_plain rfl) rfl (still_bin rfl ot opd_const (bin_add (wrap_i64 (by omega) (by omega)))) ?_
            refine OD.still (wants_plain rfl) rfl (still_as rfl ot) ?_
            refine OD.wk (Wk.as_ (n := 55) (l' := [(0, _), (2, _), (3, _), (4, _)]) (S' := [⟨b9, 25, 2, [_, _]⟩, ⟨b5, 27, 3, [_, _, _]⟩, ⟨b3, 25, 2, [_, _]⟩, ⟨b2, 25, 2, [_, _]⟩]) rfl rfl ⟨lk, lk, lk, lk, trivial⟩) ?_
            refine OD.nil ?_
            refine ⟨((k + 1), h', q'), ⟨55, [(0, .list 3 (l.flatMap cW) l.length), (2, .v (.pointer (some ⟨b2, 0, none⟩))), (3, .v (.pointer (some ⟨b3, 0, none⟩))), (4, .v (.int .i64 (((k + 1)) : Nat)))], [⟨b3, 25, 2, [locksD (h'), locksD (q')]⟩, ⟨b2, 25, 2, [.v (.slice none 0 0), .v (.slice none 0 0)]⟩]⟩, ?_, Wk.asS (n := 55) rfl (by repeat (first | exact List.Sublist.refl _ | apply List.Sublist.cons)) ⟨(by (repeat (first | exact look_hit | (apply look_at; focus (first | rfl | (simp; done) | (congr 2; omega))) | (apply look_miss; focus rfl))); done), (by (repeat (first | exact look_hit | (apply look_at; focus (first | rfl | (simp; done) | (congr 2; omega))) | (apply look_miss; focus rfl))); done), (by (repeat (first | exact look_hit | (apply look_at; focus (first | rfl | (simp; done) | (congr 2; omega))) | (apply look_miss; focus rfl))); done), (by (repeat (first | exact look_hit | (apply look_at; focus (first | rfl | (simp; done) | (congr 2; omega))) | (apply look_miss; focus rfl))); done), trivial⟩, (by omega), (by omega), (ask_good g hlv), (by rw [take_step hr.1, hst]; unfold stepF; first | (rw [if_pos ha, hlv]; simp only []; first | rw [if_pos he] | rw [if_neg he]) | (rw [if_neg ha, hlv]; simp only []; first | rw [if_pos he] | rw [if_neg he])), rfl⟩
            first | omega | (simp only []; omega)
          · have hc3' := hc3
            (try simp only [decide_eq_true_eq, decide_eq_false_iff_not, beq_iff_eq, bne_iff_ne, Bool.not_eq_true', Bool.not_eq_false', Bool.not_eq_true, Bool.not_eq_false, beq_eq_false_iff_ne, ne_eq, bne_eq_false_iff_eq, Bool.and_eq_true, Bool.or_eq_true, Bool.not_not, Bool.and_eq_false_iff, Bool.or_eq_false_iff, Int.not_lt, Int.not_le] at hc3')
            have he : ¬ e = 0 := by simpa using hc3
            refine CD.skip ?_
            refine CD.region ?_
            refine OD.still (wants_plain rfl) rfl (still_mv rfl ot) ?_
            refine OD.still (wants_plain rfl) rfl (still_bin rfl ot opd_const (bin_add (wrap_i64 (by omega) (by omega)))) ?_
            refine OD.still (wants_plain rfl) rfl (still_as rfl ot) ?_
            refine OD.wk (Wk.as_ (n := 55) (l' := [(0, _), (2, _), (3, _), (4, _)]) (S' := [⟨b9, 25, 2, [_, _]⟩, ⟨b5, 27, 3, [_, _, _]⟩, ⟨b3, 25, 2, [_, _]⟩, ⟨b2, 25, 2, [_, _]⟩]) rfl rfl ⟨lk, lk, lk, lk, trivial⟩) ?_
            refine OD.nil ?_
            refine ⟨((k + 1), h, q), ⟨55, [(0, .list 3 (l.flatMap cW) l.length), (2, .v (.pointer (some ⟨b2, 0, none⟩))), (3, .v (.pointer (some ⟨b3, 0, none⟩))), (4, .v (.int .i64 (((k + 1)) : Nat)))], [⟨b3, 25, 2, [locksD h, locksD q]⟩, ⟨b2, 25, 2, [.v (.slice none 0 0), .v (.slice none 0 0)]⟩]⟩, ?_, Wk.asS (n := 55) rfl (by repeat (first | exact List.Sublist.refl _ | apply List.Sublist.cons)) ⟨(by (repeat (first | exact look_hit | (apply look_at; focus (first | rfl | (simp; done) | (congr 2; omega))) | (apply look_miss; focus rfl))); done), (by (repeat (first | exact look_hit | (apply look_at; focus (first | rfl | (simp; done) | (congr 2; omega))) | (apply look_miss; focus rfl))); done), (by (repeat (first | exact look_hit | (apply look_at; focus (first | rfl | (simp; done) | (congr 2; omega))) | (apply look_miss; focus rfl))); done), (by (repeat (first | exact look_hit | (apply look_at; focus (first | rfl | (simp; done) | (congr 2; omega))) | (apply look_miss; focus rfl))); done), trivial⟩, (by omega), (by omega), g, (by rw [take_step hr.1, hst]; unfold stepF; first | (rw [if_pos ha, hlv]; simp only []; first | rw [if_pos he] | rw [if_neg he]) | (rw [if_neg ha, hlv]; simp only []; first | rw [if_pos he] | rw [if_neg he])), rfl⟩
            first | omega | (simp only []; omega)
      · exact absurd hc0 (by first | (simp at hc0; done) | (simp at hc0; omega))
    · exact absurd hg16 (by first | (simp at hg16; done) | (simp at hg16; omega))
  · skip
    refine OD.still (wants_plain rfl) rfl (still_mv rfl ot) ?_
    refine OD.still (wants_plain rfl) rfl (still_mv rfl ot) ?_
    refine OD.still (wants_plain rfl) rfl (still_r1 (mk := fun y => .call { callee := .builtin .len, args := #[y], argTypes := #[32] }) rfl ot (by first | exact len_list rfl Tryd.runUnderlying32 | exact len_row rfl Tryd.runUnderlying32)) ?_
    refine OD.still (wants_plain rfl) rfl (still_bin rfl ot ot bin_lss) ?_
    refine OD.still (wants_plain rfl) rfl (still_mv rfl ot) ?_
    refine OD.split (t := 16) lk (fun hg16 => ?_) (fun hg16 => ?_)
    · exact absurd hg16 (by first | (simp at hg16; done) | (simp at hg16; omega))
    · have hg16' := hg16; (try simp only [decide_eq_true_eq, decide_eq_false_iff_not, beq_iff_eq, bne_iff_ne, Bool.not_eq_true', Bool.not_eq_false', Bool.not_eq_true, Bool.not_eq_false, beq_eq_false_iff_ne, ne_eq, bne_eq_false_iff_eq, Bool.and_eq_true, Bool.or_eq_true, Bool.not_not] at hg16')
      refine OD.skip (wants_F rfl rfl rfl lk (by first | rfl | assumption)) rfl ?_
      refine OD.skip (wants_F rfl rfl rfl lk (by first | rfl | assumption)) rfl ?_
      refine OD.still (wants_plain rfl) rfl (still_pickF rfl ot (by first | rfl | assumption) opd_const) ?_
      refine OD.wk (Wk.as_ (n := 55) (l' := [(0, _), (2, _), (3, _), (4, _), (19, _)]) (S' := [⟨b3, 25, 2, [_, _]⟩, ⟨b2, 25, 2, [_, _]⟩]) rfl rfl ⟨lk, lk, lk, lk, lk, trivial⟩) ?_
      refine OD.nil ?_
      refine CD.condF ot (by first | rfl | assumption) ?_
      have hfin : l.take k = l.take 40 := by rcases Nat.lt_or_ge k l.length with h9 | h9 <;> first | (rw [show k = 40 by omega]; done) | (rw [List.take_of_length_le (by omega), List.take_of_length_le (by omega)]; done)
      have hres : locksF l = (h, q) := by unfold locksF; rw [← hfin]; exact hst
      refine CD.exit ?_
      refine CD.seq ?_
      refine CD.region ?_
      refine OD.still (wants_plain rfl) rfl (still_r1 (mk := Op.load 25) rfl ot (by first | exact ld_blks (k := 0) (ds := [_, _]) rfl rfl Tryd.isAgg25 Tryd.sizeOf25 rfl rfl | exact ld_fms cW_len Tryd.isAgg25 Tryd.sizeOf25 (by first | assumption | omega) | exact ld_fms cL_len Tryd.isAgg25 Tryd.sizeOf25 (by first | assumption | omega) | exact ld_rows (k := 0) cW_len rfl rfl rfl Tryd.isAgg25 Tryd.sizeOf25 (by first | assumption | omega) | exact ld_rows (k := 1) cW_len rfl rfl rfl Tryd.isAgg25 Tryd.sizeOf25 (by first | assumption | omega) | exact ld_rows (k := 0) cL_len rfl rfl rfl Tryd.isAgg25 Tryd.sizeOf25 (by first | assumption | omega) | exact ld_rows (k := 1) cL_len rfl rfl rfl Tryd.isAgg25 Tryd.sizeOf25 (by first | assumption | omega) | exact ld_is (ds := [_, _]) Tryd.isAgg25 Tryd.sizeOf25 rfl rfl)) ?_
      refine OD.store (k := 1) (cs' := [_, _]) (wants_plain rfl) rfl rfl ot rfl rfl ot rfl rfl Tryd.sizeOf25 rfl rfl rfl ?_
      refine OD.wk (Wk.as_ (n := 55) (l' := [(2, _)]) (S' := [⟨b3, 25, 2, [_, _]⟩, ⟨b2, 25, 2, [_, _]⟩]) rfl rfl ⟨lk, trivial⟩) ?_
      refine OD.nil ?_
      refine CD.ret ?_
      refine ⟨.inr rfl, _, [], List.nil_sublist _, ret_one Tryd.results16 (res_cells (k := 1) (ds := [_, _]) (Nat.le_of_ble_eq_true rfl) lk rfl rfl Tryd.isAgg25 Tryd.sizeOf25 rfl rfl), ?_⟩
      first | (rw [hres]; exact ⟨rfl, rfl⟩) | skip
  · skip
    refine OD.still (wants_plain rfl) rfl (still_mv rfl ot) ?_
    refine OD.still (wants_plain rfl) rfl (still_mv rfl ot) ?_
    refine OD.still (wants_plain rfl) rfl (still_r1 (mk := fun y => .call { callee := .builtin .len, args := #[y], argTypes := #[32] }) rfl ot (by first | exact len_list rfl Tryd.runUnderlying32 | exact len_row rfl Tryd.runUnderlying32)) ?_
    refine OD.still (wants_plain rfl) rfl (still_bin rfl ot ot bin_lss) ?_
    refine OD.still (wants_plain rfl) rfl (still_mv rfl ot) ?_
    refine OD.split (t := 16) lk (fun hg16 => ?_) (fun hg16 => ?_)
    · have hg16' := hg16; (try simp only [decide_eq_true_eq, decide_eq_false_iff_not, beq_iff_eq, bne_iff_ne, Bool.not_eq_true', Bool.not_eq_false', Bool.not_eq_true, Bool.not_eq_false, beq_eq_false_iff_ne, ne_eq, bne_eq_false_iff_eq, Bool.and_eq_true, Bool.or_eq_true, Bool.not_not] at hg16')
      refine OD.still (wants_T rfl rfl rfl lk (by first | rfl | assumption)) rfl (still_mv rfl ot) ?_
      refine OD.still (wants_T rfl rfl rfl lk (by first | rfl | assumption)) rfl (still_bin rfl ot opd_const bin_lss) ?_
      refine OD.still (wants_plain rfl) rfl (still_pickT rfl ot (by first | rfl | assumption) ot) ?_
      refine OD.wk (Wk.as_ (n := 55) (l' := [(0, _), (2, _), (3, _), (4, _), (19, _)]) (S' := [⟨b3, 25, 2, [_, _]⟩, ⟨b2, 25, 2, [_, _]⟩]) rfl rfl ⟨lk, lk, lk, lk, lk, trivial⟩) ?_
      refine OD.nil ?_
      refine CD.cond ot (fun hc0 => ?_) (fun hc0 => ?_)
      · exact absurd hc0 (by first | (simp at hc0; done) | (simp at hc0; omega))
      · have hc0' := hc0
        (try simp only [decide_eq_true_eq, decide_eq_false_iff_not, beq_iff_eq, bne_iff_ne, Bool.not_eq_true', Bool.not_eq_false', Bool.not_eq_true, Bool.not_eq_false, beq_eq_false_iff_ne, ne_eq, bne_eq_false_iff_eq, Bool.and_eq_true, Bool.or_eq_true, Bool.not_not, Bool.and_eq_false_iff, Bool.or_eq_false_iff, Int.not_lt, Int.not_le] at hc0')
        have hfin : l.take k = l.take 40 := by rcases Nat.lt_or_ge k l.length with h9 | h9 <;> first | (rw [show k = 40 by omega]; done) | (rw [List.take_of_length_le (by omega), List.take_of_length_le (by omega)]; done)
        have hres : locksF l = (h, q) := by unfold locksF; rw [← hfin]; exact hst
        refine CD.exit ?_
        refine CD.seq ?_
        refine CD.region ?_
        refine OD.still (wants_plain rfl) rfl (still_r1 (mk := Op.load 25) rfl ot (by first | exact ld_blks (k := 0) (ds := [_, _]) rfl rfl Tryd.isAgg25 Tryd.sizeOf25 rfl rfl | exact ld_fms cW_len Tryd.isAgg25 Tryd.sizeOf25 (by first | assumption | omega) | exact ld_fms cL_len Tryd.isAgg25 Tryd.sizeOf25 (by first | assumption | omega) | exact ld_rows (k := 0) cW_len rfl rfl rfl Tryd.isAgg25 Tryd.sizeOf25 (by first | assumption | omega) | exact ld_rows (k := 1) cW_len rfl rfl rfl Tryd.isAgg25 Tryd.sizeOf25 (by first | assumption | omega) | exact ld_rows (k := 0) cL_len rfl rfl rfl Tryd.isAgg25 Tryd.sizeOf25 (by first | assumption | omega) | exact ld_rows (k := 1) cL_len rfl rfl rfl Tryd.isAgg25 Tryd.sizeOf25 (by first | assumption | omega) | exact ld_is (ds := [_, _]) Tryd.isAgg25 Tryd.sizeOf25 rfl rfl)) ?_
        refine OD.store (k := 1) (cs' := [_, _]) (wants_plain rfl) rfl rfl ot rfl rfl ot rfl rfl Tryd.sizeOf25 rfl rfl rfl ?_
        refine OD.wk (Wk.as_ (n := 55) (l' := [(2, _)]) (S' := [⟨b3, 25, 2, [_, _]⟩, ⟨b2, 25, 2, [_, _]⟩]) rfl rfl ⟨lk, trivial⟩) ?_
        refine OD.nil ?_
        refine CD.ret ?_
        refine ⟨.inr rfl, _, [], List.nil_sublist _, ret_one Tryd.results16 (res_cells (k := 1) (ds := [_, _]) (Nat.le_of_ble_eq_true rfl) lk rfl rfl Tryd.isAgg25 Tryd.sizeOf25 rfl rfl), ?_⟩
        first | (rw [hres]; exact ⟨rfl, rfl⟩) | skip
    · exact absurd hg16 (by first | (simp at hg16; done) | (simp at hg16; omega))

end Go.Proofs.YtcogdagfcndbfaaDoor.Lk

namespace Go.Proofs.YtcogdagfcndbfaaDoor.V
open Go.RowKit
set_option linter.unusedVariables false

variable {H : Type} {enc : TypeId × Value → H} {P : Program} {w : World} {base : Nat} {sp : Nat → Bool} {held : Bool}

/-- Cells that read by the type are those of some a, of which 'ok' holds. -/
def Rds (enc : TypeId × Value → H) (P : Program) (w : World) (base : Nat) (sp : Nat → Bool) (held : Bool) (t : TypeId) {α : Type} (g : α → List D) (ok : α → Prop) : Prop :=
  ∀ fuel cs x, DataW.trod enc P w base sp held fuel t cs = some x → ∃ a, RepL w (fun _ => False) (g a) cs ∧ ok a

theorem rd_int {t : TypeId} (ht : P.underlying t = some (.int .i64)) : Rds enc P w base sp held t (fun n : Int => [.v (.int .i64 n)]) (fun n => -9223372036854775808 ≤ n ∧ n ≤ 9223372036854775807) := fun fuel cs x h => by
  obtain ⟨n, rfl, _, hw⟩ := DataW.trod_int ht h
  exact ⟨n, RepL.vs w _ [_], wf_bd hw⟩
theorem Rds.map {t : TypeId} {α β : Type} {g : α → List D} {ok : α → Prop} {g' : β → List D} {ok' : β → Prop} (h : Rds enc P w base sp held t g ok) (f : α → β) (hg : ∀ a, g' (f a) = g a) (hok : ∀ a, ok a → ok' (f a)) : Rds enc P w base sp held t g' ok' := fun fuel cs x hx => by
  obtain ⟨a, h1, h2⟩ := h fuel cs x hx
  exact ⟨f a, by rw [hg]; exact h1, hok a h2⟩

theorem rd_struct3 {t : TypeId} {f0 f1 f2 : Field} {α0 α1 α2 : Type} {g0 : α0 → List D} {g1 : α1 → List D} {g2 : α2 → List D} {k0 : α0 → Prop} {k1 : α1 → Prop} {k2 : α2 → Prop} {n0 n1 n2 : Nat}
    (ht : P.underlying t = some (.struct #[f0, f1, f2])) (hc : P.cellsOf t = n0 + n1 + n2) (o0 : f0.offset = 0) (o1 : f1.offset = n0) (o2 : f2.offset = n0 + n1) (c0 : P.cellsOf f0.type = n0) (c1 : P.cellsOf f1.type = n1) (c2 : P.cellsOf f2.type = n2)
    (r0 : Rds enc P w base sp held f0.type g0 k0) (r1 : Rds enc P w base sp held f1.type g1 k1) (r2 : Rds enc P w base sp held f2.type g2 k2) :
    Rds enc P w base sp held t (fun a : α0 × α1 × α2 => g0 a.1 ++ (g1 a.2.1 ++ g2 a.2.2)) (fun a => k0 a.1 ∧ k1 a.2.1 ∧ k2 a.2.2) := fun fuel cs x h => by
  obtain ⟨xs, n, _, _, hl, hxl, hf⟩ := DataW.trod_struct ht h
  have e0 := hf 0 f0 rfl
  have e1 := hf 1 f1 rfl
  have e2 := hf 2 f2 rfl
  rw [o0, c0, List.drop_zero] at e0
  rw [o1, c1] at e1
  rw [o2, c2] at e2
  have hx3 : xs.length = 3 := hxl
  rw [List.getElem?_eq_getElem (by omega)] at e0 e1 e2
  obtain ⟨a0, p0, q0⟩ := r0 _ _ _ e0
  obtain ⟨a1, p1, q1⟩ := r1 _ _ _ e1
  obtain ⟨a2, p2, q2⟩ := r2 _ _ _ e2
  refine ⟨(a0, a1, a2), ?_, q0, q1, q2⟩
  have hcs : cs = cs.take n0 ++ ((cs.drop n0).take n1 ++ (cs.drop (n0 + n1)).take n2) := by
    rw [← List.drop_drop, List.take_of_length_le (l := List.drop n1 (List.drop n0 cs)) (by rw [List.length_drop, List.length_drop]; omega), List.take_append_drop, List.take_append_drop]
  rw [hcs]
  exact p0.append (p1.append p2)

/-- A slice, as an argument. -/
theorem rd_slice {t e : TypeId} {sz b' : Nat} {α : Type} {g : α → List D} {ok : α → Prop} (ht : P.underlying t = some (.slice e)) (hce : P.cellsOf e = sz) (hsz : 0 < sz) (re : Rds enc P w base sp held e g ok) (hg : ∀ a, (g a).length = sz) {v : Value} {d : DataW H} {p : List MemPlace}
    (hval : Value.okWide P w .any b' t v) (h : DataW.Trod enc P w base sp held t v d p) : ∃ l : List α, Rep w (fun _ => False) (.list sz (l.flatMap g) l.length) v ∧ (∀ x ∈ l, ok x) ∧ l.length ≤ maxLen := by
  have hv : Cell.okWide P w .any b' t v := by unfold Value.okWide at hval; rw [ht] at hval; exact hval
  unfold Cell.okWide at hv
  rw [ht] at hv
  obtain ⟨m, hm⟩ := h
  have hv2 : Cell.ok P w .any b' t v := by revert hv; cases v <;> exact id
  unfold Cell.ok at hv2
  rw [ht] at hv2
  cases v with
  | slice ad len cap =>
    rcases Go.Deep.open_slice ht hm with ⟨h1, _⟩ | ⟨a, len', cap', mm, n, Dd, Pl, h1, hb, hl, hmx, hmm, _, hx⟩
    · have e1 : Value.slice ad len cap = .slice none 0 0 := by simpa [Value.cells] using h1
      rw [e1]
      exact ⟨[], .nil sz, (fun x hx => by cases hx), Nat.zero_le _⟩
    · have e1 : Value.slice ad len cap = .slice (some a) len' cap' := by simpa [Value.cells] using h1
      cases e1
      have hhas : w.has P .any b' a e cap := hv2.2.2
      obtain ⟨_, hspot, row, cells, hsh, _⟩ := hhas
      obtain ⟨b, o, s⟩ := a
      have hspot' : s = none := hspot
      subst hspot'
      have hlt : b < w.heap.size := by
        rcases Nat.lt_or_ge b w.heap.size with h2 | h2
        · exact h2
        · simp [World.shape?, Array.getElem?_eq_none h2] at hsh
      have hle : len ≤ mm := by rw [hmm]; split <;> omega
      have each : ∀ i : Fin len, ∃ a : α, (∃ cs', w.cells? base ((⟨b, o, none⟩ : Addr).add (i.1 * P.cellsOf e)) (P.cellsOf e) = some cs' ∧ RepL w (fun _ => False) (g a) cs') ∧ ok a := fun i => by
        obtain ⟨cs', h1, h2⟩ := hx i.1 (by omega)
        obtain ⟨a, h3, h4⟩ := re _ _ _ h2
        exact ⟨a, ⟨cs', h1, h3⟩, h4⟩
      let l : List α := List.ofFn fun i : Fin len => Classical.choose (each i)
      have hll : l.length = len := by simp [l]
      have hli : ∀ i (hi : i < l.length), (∃ cs', w.cells? base ((⟨b, o, none⟩ : Addr).add (i * P.cellsOf e)) (P.cellsOf e) = some cs' ∧ RepL w (fun _ => False) (g l[i]) cs') ∧ ok l[i] := fun i hi => by
        have := Classical.choose_spec (each ⟨i, by omega⟩)
        simpa [l] using this
      refine ⟨l, ?_, fun x hx => ?_, by omega⟩
      · have key : ∀ k, k < (l.flatMap g).length → ∃ u, w.cell? ⟨b, o + k, none⟩ = some u ∧ ∀ h : k < (l.flatMap g).length, Rep w (fun _ => False) (l.flatMap g)[k] u := fun k hk => by
          rw [fm_len hg] at hk
          have hi : k / sz < l.length := Nat.div_lt_of_lt_mul (by rw [Nat.mul_comm]; exact hk)
          have hj : k % sz < sz := Nat.mod_lt _ hsz
          have hkk : k / sz * sz + k % sz = k := by rw [Nat.mul_comm]; exact Nat.div_add_mod k sz
          obtain ⟨⟨cs', h1, h2⟩, _⟩ := hli _ hi
          obtain ⟨_, h4, h5⟩ := World.cells?_some h1
          have h6 := h5 (k % sz) (by omega)
          have hjl : k % sz < cs'.length := by omega
          rw [List.getElem?_eq_getElem hjl, Go.Deep.add_add, hce, hkk, Addr.add_mid] at h6
          refine ⟨_, h6, fun h => ?_⟩
          have h7 := h2.2 (k % sz) (by rw [hg]; exact hj) hjl
          have h8 := fm_cell hg hi (List.getElem?_eq_getElem (show k % sz < (g l[k / sz]).length by rw [hg]; exact hj))
          rw [hkk, List.getElem?_eq_getElem h] at h8
          rw [Option.some.inj h8]
          exact h7
        have hm2 : len ≤ cap := hl
        have hgoal : Value.slice (some ⟨b, o, none⟩) len cap = Value.slice (some ⟨b, o, none⟩) l.length cap := by rw [hll]
        rw [hgoal]
        refine Rep.list (L := fun _ => False) sz (l.flatMap g) l.length b o cap (fun k => (w.cell? ⟨b, o + k, none⟩).getD undef) (fm_len hg l) (by omega) hmx hlt (fun h => h.elim) (fun k hk => ?_) (fun k hk => ?_)
        · obtain ⟨u, h1, _⟩ := key k hk
          rw [h1]; rfl
        · obtain ⟨u, h1, h2⟩ := key k hk
          simp only [h1, Option.getD_some]
          exact h2 hk
      · obtain ⟨i, hi, rfl⟩ := List.mem_iff_getElem.1 hx
        exact (hli i hi).2
  | _ => exact hv2.elim

theorem VP.runL {G : List (Nat × List Value)} {f : FuncId} {args : List D} {vs : List Value} {r : Value} (h : VP P G f args (.v r))
    (hG : ∀ g ∈ G, g.2 ≠ [] ∧ Tab.TabAt w g.1 g.2) (hr : RepL w (fun _ => False) args vs) : Calls P f vs.toArray w fun e w' => e = .returned r ∧ Below w.heap.size w w' :=
  h.run hG (hr.mono fun b _ _ => ⟨rfl, fun hl => by rcases hl with hl | hl; exact hl; simp [bks] at hl⟩)

end Go.Proofs.YtcogdagfcndbfaaDoor.V

namespace Go.Proofs.YtcogdagfcndbfaaDoor.Lk
open Go.RowKit V
set_option linter.unusedVariables false
set_option linter.unusedSimpArgs false

theorem rd_wish {H : Type} {enc : TypeId × Value → H} {w : World} {base : Nat} {sp : Nat → Bool} {held : Bool} : Rds enc Tryd.prog w base sp held 44 cW W3.Ok :=
  (rd_struct3 Tryd.underlying44 (n0 := 1) (n1 := 1) (n2 := 1) (by kernel_rfl) rfl rfl rfl (by kernel_rfl) (by kernel_rfl) (by kernel_rfl) (rd_int Tryd.underlying3) (rd_int Tryd.underlying3) (rd_int Tryd.underlying3)).map (fun a => ⟨a.1, a.2.1, a.2.2⟩) (fun a => rfl) (fun a h => ⟨h.1.1, h.1.2, h.2.1.1, h.2.1.2, h.2.2.1, h.2.2.2⟩)
theorem rd_wishes {H : Type} {enc : TypeId × Value → H} {w : World} {base b' : Nat} {sp : Nat → Bool} {held : Bool} {v : Value} {d : DataW H} {p : List MemPlace} (hval : Value.okWide Tryd.prog w .any b' 32 v) (h : DataW.Trod enc Tryd.prog w base sp held 32 v d p) :
    ∃ l : List W3, Rep w (fun _ => False) (.list 3 (l.flatMap cW) l.length) v ∧ (∀ x ∈ l, x.Ok) ∧ l.length ≤ maxLen :=
  rd_slice Tryd.underlying32 (by kernel_rfl) (by decide) rd_wish cW_len hval h

/-! ### Whose locks there are -/

def Who (p : Int → Prop) (held queue : List L) : Prop := (∀ h ∈ held, p h.t) ∧ ∀ q ∈ queue, p q.t
theorem Who.mono {p p' : Int → Prop} {held queue : List L} (h : Who p held queue) (k : ∀ t, p t → p' t) : Who p' held queue := ⟨fun x hx => k _ (h.1 x hx), fun x hx => k _ (h.2 x hx)⟩
theorem who_have {p : Int → Prop} {held : List L} {x : L} (h : ∀ y ∈ held, p y.t) (hx : p x.t) : ∀ y ∈ haveL held x, p y.t := by
  intro y hy
  unfold haveL at hy
  split at hy
  · obtain ⟨j, hj, rfl⟩ := List.mem_iff_getElem.1 hy
    simp only [List.length_modify] at hj
    simp only [List.getElem_modify]
    split
    · exact (show p held[j].t from h _ (List.getElem_mem hj))
    · exact h _ (List.getElem_mem hj)
  · rcases List.mem_append.1 hy with hy | hy
    · exact h y hy
    · simp only [List.mem_singleton] at hy; subst hy; exact hx
theorem who_wake {p : Int → Prop} : ∀ (n : Nat) (held queue : List L) (i : Nat) (ws : List Int), queue.length * 1000 + (queue.length - i) = n → queue.length ≤ 200 → Who p held queue → Who p (wake held queue i ws).1 (wake held queue i ws).2.1 := by
  intro n
  induction n using Nat.strongRecOn with
  | _ n ih =>
    intro held queue i ws hn hl h
    by_cases hi : i < queue.length
    · rw [wake, dif_pos hi]
      cases hq : firstQ held (queue.take i) queue[i] with
      | true =>
        rw [if_pos rfl]
        exact ih ((queue.eraseIdx i).length * 1000 + ((queue.eraseIdx i).length - 0)) (by rw [List.length_eraseIdx_of_lt hi]; omega) _ _ 0 _ rfl (by rw [List.length_eraseIdx_of_lt hi]; omega) ⟨who_have h.1 (h.2 _ (List.getElem_mem hi)), fun y hy => h.2 y (List.mem_of_mem_eraseIdx hy)⟩
      | false =>
        rw [if_neg Bool.false_ne_true]
        exact ih (queue.length * 1000 + (queue.length - (i + 1))) (by omega) _ _ (i + 1) _ rfl hl h
    · rw [wake, dif_neg hi]; exact h
theorem who_leave {p : Int → Prop} {held queue : List L} {t : Int} (h : Who p held queue) (hl : queue.length ≤ 200) : Who (fun u => p u ∧ u ≠ t) (leaveG held queue t).1 (leaveG held queue t).2.1 := by
  unfold leaveG
  refine who_wake _ _ _ 0 _ rfl (Nat.le_trans (List.length_filter_le _ _) hl) ⟨fun y hy => ?_, fun y hy => ?_⟩
  · obtain ⟨h1, h2⟩ := List.mem_filter.1 hy
    exact ⟨h.1 y h1, by simpa using h2⟩
  · obtain ⟨h1, h2⟩ := List.mem_filter.1 hy
    exact ⟨h.2 y h1, by simpa using h2⟩
end Go.Proofs.YtcogdagfcndbfaaDoor.Lk

namespace Go.Proofs.YtcogdagfcndbfaaDoor.Lk
end Go.Proofs.YtcogdagfcndbfaaDoor.Lk


namespace Go.Proofs.YtcogdagfcndbfaaDoor.Lk
end Go.Proofs.YtcogdagfcndbfaaDoor.Lk


namespace Go.Proofs.YtcogdagfcndbfaaDoor.Lk
end Go.Proofs.YtcogdagfcndbfaaDoor.Lk


namespace Go.Proofs.YtcogdagfcndbfaaDoor.Lk
open Go.RowKit V
set_option linter.unusedVariables false
set_option linter.unusedSimpArgs false

theorem modeF_own {held : List L} {t : Int} {th : ByteArray} {m : Int} (x : L) (e1 : x.t = t) (e2 : x.th = th) (h : ownM held x = some m) : modeF held t th = m := by
  subst e1 e2
  unfold ownM at h
  unfold modeF
  rw [h]; rfl
theorem own_haveL {held : List L} {x : L} (hk : held.Pairwise (fun a b => hasK b.t b.th a = false)) : ownM (haveL held x) x = some x.m := by
  obtain ⟨y, hy, h1, h2, h3⟩ := have_new (held := held) (x := x)
  rw [own_mem (have_keys hk) hy (hasK_iff.2 ⟨h1, h2⟩), h3]
/-! ### How many locks there are -/
end Go.Proofs.YtcogdagfcndbfaaDoor.Lk

namespace Go.Proofs.YtcogdagfcndbfaaDoor.Lk
open Go.RowKit V
set_option linter.unusedVariables false
set_option linter.unusedSimpArgs false

theorem modeF_ownM {held : List L} {t : Int} {th : ByteArray} : modeF held t th = (ownM held ⟨t, th, 0⟩).getD 0 := rfl
theorem modeF_have {held : List L} {x : L} {t : Int} {th : ByteArray} (h : t ≠ x.t) : modeF (haveL held x) t th = modeF held t th := by
  rw [modeF_ownM, modeF_ownM, own_have (q := ⟨t, th, 0⟩) h]
theorem wake_told : ∀ (n : Nat) (held queue : List L) (i : Nat) (ws : List Int), queue.length * 1000 + (queue.length - i) = n → WG held queue →
    ∃ new, (wake held queue i ws).2.2 = ws ++ new ∧ (wake held queue i ws).2.1.length + new.length = queue.length ∧ (wake held queue i ws).2.1.Sublist queue ∧
      (∀ x ∈ queue, x ∈ (wake held queue i ws).2.1 ∨ modeF (wake held queue i ws).1 x.t x.th = x.m) ∧
      (∀ u ∈ new, (∃ x ∈ queue, x.t = u) ∧ ∀ y ∈ (wake held queue i ws).2.1, y.t ≠ u) ∧
      (∀ t th, (∀ x ∈ queue, x.t ≠ t) → modeF (wake held queue i ws).1 t th = modeF held t th) := by
  intro n
  induction n using Nat.strongRecOn with
  | _ n ih =>
    intro held queue i ws hn g
    by_cases h : i < queue.length
    · rw [wake, dif_pos h]
      have hlen := g.few
      cases hq : firstQ held (queue.take i) queue[i] with
      | true =>
        rw [if_pos rfl]
        have hfree : freeB held queue[i] = true := by unfold firstQ at hq; rw [Bool.and_eq_true] at hq; exact hq.1
        have hle : (haveL held queue[i]).length ≤ held.length + 1 := haveL_le held queue[i]
        have hne : ∀ q ∈ queue.eraseIdx i, q.t ≠ queue[i].t := fun q hq' => by
          obtain ⟨j, hj, rfl⟩ := List.mem_iff_getElem.1 hq'
          rw [List.getElem_eraseIdx]
          rw [List.length_eraseIdx_of_lt h] at hj
          split
          · rename_i hji
            have := List.pairwise_iff_getElem.1 g.qkeys j i (by omega) h hji
            simpa using this
          · rename_i hji
            have := List.pairwise_iff_getElem.1 g.qkeys i (j + 1) h (by omega) (by omega)
            have h2 : queue[i].t ≠ queue[j + 1].t := by simpa using this
            exact fun e => h2 e.symm
        have g2 : WG (haveL held queue[i]) (queue.eraseIdx i) := g.have_ (List.eraseIdx_sublist _ _) (g.qshape _ (List.getElem_mem h)) hfree (by rw [List.length_eraseIdx_of_lt h]; omega) hne
        obtain ⟨new, h1, h2, h3, h4, h5, h6⟩ := ih ((queue.eraseIdx i).length * 1000 + ((queue.eraseIdx i).length - 0)) (by rw [List.length_eraseIdx_of_lt h]; omega) (haveL held queue[i]) (queue.eraseIdx i) 0 (ws ++ [queue[i].t]) rfl g2
        have hx0 : modeF (wake (haveL held queue[i]) (queue.eraseIdx i) 0 (ws ++ [queue[i].t])).1 queue[i].t queue[i].th = queue[i].m := by
          rw [h6 _ _ hne]; exact modeF_own queue[i] rfl rfl (own_haveL g.keys)
        refine ⟨queue[i].t :: new, ?_, ?_, h3.trans (List.eraseIdx_sublist _ _), fun x hx => ?_, fun u hu => ?_, fun t th ht => ?_⟩
        · rw [h1]; simp
        · rw [List.length_eraseIdx_of_lt h] at h2; rw [List.length_cons]; omega
        · obtain ⟨j, hj, rfl⟩ := List.mem_iff_getElem.1 hx
          by_cases e : j = i
          · subst e; exact .inr hx0
          · exact h4 _ (List.mem_eraseIdx_iff_getElem.2 ⟨j, hj, e, rfl⟩)
        · rcases List.mem_cons.1 hu with rfl | hu
          · exact ⟨⟨_, List.getElem_mem h, rfl⟩, fun y hy => hne y (h3.subset hy)⟩
          · obtain ⟨⟨x, hx, hxu⟩, h7⟩ := h5 u hu
            exact ⟨⟨x, (List.eraseIdx_sublist _ _).subset hx, hxu⟩, h7⟩
        · rw [h6 t th (fun x hx => ht x ((List.eraseIdx_sublist _ _).subset hx)), modeF_have (fun e => ht _ (List.getElem_mem h) e.symm)]
      | false =>
        rw [if_neg Bool.false_ne_true]
        exact ih (queue.length * 1000 + (queue.length - (i + 1))) (by omega) held queue (i + 1) ws rfl g
    · rw [wake, dif_neg h]
      exact ⟨[], by simp, by simp, List.Sublist.refl _, fun x hx => .inl hx, (fun u hu => by cases hu), fun _ _ _ => rfl⟩

theorem filter_two : ∀ (q : List L) (t : Int), (q.filter (fun x => x.t == t)).length + (q.filter (·.t != t)).length = q.length
  | [], t => rfl
  | x :: q, t => by
    have := filter_two q t
    by_cases e : x.t = t
    · have e2 : (x.t != t) = false := by simp [e]
      rw [List.filter_cons_of_pos (by simpa using e), List.filter_cons_of_neg (by simp [e])]
      simp only [List.length_cons]; omega
    · rw [List.filter_cons_of_neg (by simpa using e), List.filter_cons_of_pos (by simpa using e)]
      simp only [List.length_cons]; omega

theorem leave_told {held queue : List L} {t : Int} (g : Good held queue) (h1 : 1 ≤ t) (h2 : t ≤ 1048576) : ∃ h' q' ws, leaveF held queue t = (h', q', ws, 0) ∧ (∀ y ∈ h', y.t ≠ t) ∧
    (∀ u ∈ ws, u ≠ t ∧ (∀ x ∈ queue, x.t = u → modeF h' u x.th = x.m) ∧ ∀ y ∈ q', y.t ≠ u) ∧ q'.length + ws.length + (queue.filter (fun x => x.t == t)).length = queue.length := by
  obtain ⟨new, k1, k2, k3, k4, k5, k6⟩ := wake_told _ (held.filter (·.t != t)) (queue.filter (·.t != t)) 0 [] rfl (wg_leave g.wg)
  have hw := (who_leave (p := fun _ => True) (t := t) ⟨fun _ _ => trivial, fun _ _ => trivial⟩ (by have := g.few; omega) : Who _ (leaveG held queue t).1 (leaveG held queue t).2.1)
  refine ⟨(leaveG held queue t).1, (leaveG held queue t).2.1, (leaveG held queue t).2.2, leave_yes h1 h2 rfl, fun y hy => (hw.1 y hy).2, fun u hu => ?_, ?_⟩
  · have hu' : u ∈ new := by
      have : u ∈ [] ++ new := k1 ▸ hu
      simpa using this
    obtain ⟨⟨x0, hx0, hxu⟩, k7⟩ := k5 u hu'
    have hut : u ≠ t := by
      have := (List.mem_filter.1 hx0).2
      rw [← hxu]; simpa using this
    refine ⟨hut, fun x hx hxt => ?_, k7⟩
    have hx2 : x ∈ queue.filter (·.t != t) := List.mem_filter.2 ⟨hx, by rw [hxt]; simpa using hut⟩
    rcases k4 x hx2 with h | h
    · exact absurd hxt (k7 x h)
    · rw [← hxt]; exact h
  · have e1 : (leaveG held queue t).2.2 = new := by have : (leaveG held queue t).2.2 = [] ++ new := k1; simpa using this
    have e2 : (queue.filter (fun x => x.t == t)).length + (queue.filter (·.t != t)).length = queue.length := by
      exact filter_two queue t
    rw [e1]
    have k2' : (leaveG held queue t).2.1.length + new.length = (queue.filter (·.t != t)).length := k2
    omega
end Go.Proofs.YtcogdagfcndbfaaDoor.Lk

namespace Go.Proofs.YtcogdagfcndbfaaDoor.V
open Go.RowKit
set_option linter.unusedVariables false
set_option linter.unusedSimpArgs false

variable {P : Program} {C : Ctx} {G : List (Nat × List Value)} {Q : Exit → St → Prop} {x : St} {ops : Array Oper} {l : List Oper} {o : Oper}

theorem ownL_nil {e sz : Nat} {α : Type} {g : α → List D} : OwnL e sz (([] : List α).flatMap g) ([] : List α).length none 0 [] := .inl ⟨rfl, rfl, rfl, rfl, rfl⟩
theorem OwnL.cast {e sz cap : Nat} {α : Type} {g : α → List D} {ls ls' : List α} {ad : Option Addr} {S : List Blk} (h : OwnL e sz (ls.flatMap g) ls.length ad cap S) (he : ls = ls') : OwnL e sz (ls'.flatMap g) ls'.length ad cap S := he ▸ h
theorem ownL_row {e sz b cap : Nat} {α : Type} {g : α → List D} {ls : List α} (h1 : ls.length ≤ cap) (h2 : cap ≤ maxLen) : OwnL e sz (ls.flatMap g) ls.length (some ⟨b, 0, none⟩) cap [⟨b, e, cap * sz, ls.flatMap g⟩] := .inr ⟨b, rfl, h1, h2, rfl⟩

/-- A list of one's own is handed back. -/
def RetL {α : Type} (g : α → List D) (e sz : Nat) (ls : List α) (r : D) (S : List Blk) : Prop := ∃ ad cap, r = .v (.slice ad ls.length cap) ∧ OwnL e sz (ls.flatMap g) ls.length ad cap S

theorem VC.post {f : FuncId} {args : List D} {S : List Blk} {post post' : D → List Blk → Prop} (h : VC P G f args S post) (k : ∀ r S', post r S' → post' r S') : VC P G f args S post' := fun X w vs hp =>
  (h X w vs hp).mono fun e w' ⟨v, r, S', h1, h2, h3⟩ => ⟨v, r, S', h1, k _ _ h2, h3⟩

/-- A list of one's own is given up to reading. -/
theorem Wk.giveL {n t m cap e sz : Nat} {l : List (Nat × D)} {S Sq R : List Blk} {cs : List D} {ad : Option Addr} (ht : look t l = .v (.slice ad m cap)) (ho : OwnL e sz cs m ad cap Sq) (hl : cs.length = m * sz) (hp : S.Perm (Sq ++ R)) (hne : isMap e = false := by rfl) : Wk ⟨n, l, S⟩ ⟨n, (t, .list sz cs m) :: l, R⟩ := by
  refine (Wk.perm hp).trans ?_
  rcases ho with ⟨rfl, rfl, rfl, rfl, rfl⟩ | ⟨b, rfl, h1, h2, rfl⟩
  · exact Wk.giveNil ht
  · exact Wk.give (hne := hne) (k := 0) rfl ht rfl hl h1 h2

theorem OD.giveL {t m cap e sz : Nat} {Sq R : List Blk} {cs : List D} {ad : Option Addr} (ht : V.look t x.env = .v (.slice ad m cap)) (ho : OwnL e sz cs m ad cap Sq) (hl : cs.length = m * sz) (hp : x.S.Perm (Sq ++ R)) (K : OD P C ops l ⟨x.n, (t, .list sz cs m) :: x.env, R⟩ Q) (hne : isMap e = false := by rfl) : OD P C ops l x Q :=
  OD.wk (Wk.giveL (hne := hne) (n := x.n) (S := x.S) ht ho hl hp) K
theorem CD.giveL {c : Code} {t m cap e sz : Nat} {Sq R : List Blk} {cs : List D} {ad : Option Addr} (ht : V.look t x.env = .v (.slice ad m cap)) (ho : OwnL e sz cs m ad cap Sq) (hl : cs.length = m * sz) (hp : x.S.Perm (Sq ++ R)) (K : CD P C c ⟨x.n, (t, .list sz cs m) :: x.env, R⟩ Q) (hne : isMap e = false := by rfl) : CD P C c x Q :=
  CD.wk (Wk.giveL (hne := hne) (n := x.n) (S := x.S) ht ho hl hp) K

theorem RetL.mk {α : Type} {g : α → List D} {e sz cap : Nat} {ls : List α} {ad : Option Addr} {S : List Blk} (h : OwnL e sz (ls.flatMap g) ls.length ad cap S) : RetL g e sz ls (.v (.slice ad ls.length cap)) S := ⟨ad, cap, rfl, h⟩
theorem RetL.cast {α : Type} {g : α → List D} {e sz : Nat} {ls ls' : List α} {r : D} {S : List Blk} (h : RetL g e sz ls r S) (he : ls = ls') : RetL g e sz ls' r S := he ▸ h

theorem row_eq {α : Type} {cap : Nat} {ls ls' : List α} {ad : Option Addr} (h : ls = ls') : D.v (.slice ad ls.length cap) = D.v (.slice ad ls'.length cap) := by rw [h]

/-! One row among those at hand: ahead of all, and back. -/
theorem perm_r11 {A S1 : List Blk} : (A ++ S1).Perm (S1 ++ A) := List.perm_append_comm
theorem perm_r12 {A S1 S2 : List Blk} : (A ++ (S1 ++ S2)).Perm (S1 ++ (A ++ S2)) := List.perm_append_comm_assoc _ _ _
theorem perm_r22 {A S1 S2 : List Blk} : (A ++ (S1 ++ S2)).Perm (S2 ++ (A ++ S1)) := (List.perm_append_comm.append_left A).trans perm_r12
theorem perm_q11 {A S1 : List Blk} : (S1 ++ A).Perm (A ++ S1) := perm_r11.symm
theorem perm_q22 {A S1 S2 : List Blk} : (S2 ++ (A ++ S1)).Perm (A ++ (S1 ++ S2)) := perm_r22.symm
/-! ### A string appended to bytes -/

/-- append of a list that may be empty onto a list of one's own. -/
theorem OD.appendAny {α : Type} {g : α → List D} {ls new : List α} {s y : Operand} {t e tt sz bytes cap : Nat} {ad : Option Addr} {z : Value} {Sq R : List Blk} (hg : ∀ a, (g a).length = sz) (hg1 : ∀ a, (g a).all one = true) (hw : Wants ops x o true) (ho : o.op = .call { callee := .builtin .append, args := #[s, y], argTypes := #[t, t] }) (hd : o.dst = some tt)
    (ht : P.underlying t = some (.slice e)) (hi : (P.info? e).map (fun i => (i.zero, i.size, i.bytes)) = some (some z, sz, bytes)) (hzs : z.cells.size = sz) (hsz : 0 < sz) (hu : ∀ w, (underlying t).run P w = .ok (.slice e) w) (hse : ∀ w, (sizeOf e).run P w = .ok sz w)
    (hs : opd x s = .v (.slice ad ls.length cap)) (ho' : OwnL e sz (ls.flatMap g) ls.length ad cap Sq) (hp : x.S.Perm (Sq ++ R))
    (hy : opd x y = .list sz (new.flatMap g) new.length) (h63 : ls.length + new.length ≤ maxLen) (hbytes : (ls.length + new.length) * bytes ≤ 140737488355328)
    (K : ∀ ad' cap' S', OwnL e sz ((ls ++ new).flatMap g) (ls ++ new).length ad' cap' S' → OD P C ops l ⟨x.n, (tt, .v (.slice ad' (ls ++ new).length cap')) :: x.env, S' ++ R⟩ Q) (hne : isMap e = false := by rfl) : OD P C ops (o :: l) x Q := by
  rcases Nat.eq_zero_or_pos new.length with h0 | h0
  · have hn : new = [] := List.eq_nil_of_length_eq_zero h0
    subst hn
    refine OD.still hw hd (still_append0 ho hu hse hs ho'.le hy) ?_
    have := K ad cap Sq (by rw [List.append_nil]; exact ho')
    rw [List.append_nil] at this
    exact OD.wk (Wk.perm (n := x.n) hp) this
  · exact OD.appendG (hne := hne) hg hg1 hw ho hd ht hi hzs hsz hs ho' hp hy h0 h63 hbytes fun b' cap' h1 h2 => K _ cap' _ (ownL_row h1 h2)

/-! ### A table as a list -/

/-! ### Bytes, strings -/

theorem vb {x y : Bool} (h : x = y) : D.v (.bool x) = D.v (.bool y) := by rw [h]
theorem vs {x y : ByteArray} (h : x = y) : D.v (.string x) = D.v (.string y) := by rw [h]

/-! ### The first place where something holds -/

end Go.Proofs.YtcogdagfcndbfaaDoor.V
