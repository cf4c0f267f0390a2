/-
  A walk at the level of values. Part 10: the forms in which the printed walks name the rules.
-/
import Derived.Test.YtcogdagfcndbfaaDoorV9
namespace Go.Proofs.YtcogdagfcndbfaaDoor.V
open Go.RowKit
set_option linter.unusedVariables false
set_option linter.unusedSimpArgs false

variable {P : Program} {C : Ctx} {G : List (Nat × List Value)} {Q : Exit → St → Prop} {x y : St} {ops : Array Oper} {l : List Oper} {o : Oper}

theorem still_mv {z : Operand} {d : D} (ho : o.op = .move z) (hd : opd x z = d) : Still P G x o .none d := hd ▸ still_move ho
theorem still_as {z : Operand} {d : D} (ho : o.op = .assign z) (hd : opd x z = d) : Still P G x o .none d := hd ▸ still_assign ho
theorem still_pickT {c y z : Operand} {t : Bool} {d : D} (ho : o.op = .pick c y z) (hc : opd x c = .v (.bool t)) (h : t = true) (hd : opd x y = d) : Still P G x o .none d := by
  have := still_pick (P := P) (G := G) ho hc; rw [if_pos h, hd] at this; exact this
theorem still_pickF {c y z : Operand} {t : Bool} {d : D} (ho : o.op = .pick c y z) (hc : opd x c = .v (.bool t)) (h : t = false) (hd : opd x z = d) : Still P G x o .none d := by
  have := still_pick (P := P) (G := G) ho hc; rw [if_neg (by rw [h]; simp), hd] at this; exact this

/-- Operands, one by one. -/
def Opds (x : St) : List Operand → List D → Prop
  | [], [] => True
  | o :: r, d :: r' => opd x o = d ∧ Opds x r r'
  | _, _ => False

theorem Opds.eq : ∀ {os : List Operand} {ds : List D}, Opds x os ds → os.map (opd x) = ds
  | [], [], _ => rfl
  | o :: r, d :: r', h => by rw [List.map_cons, h.1, Opds.eq h.2]
  | [], _ :: _, h => h.elim
  | _ :: _, [], h => h.elim

def Parts (x : St) : List (Nat × Operand) → List (Nat × D) → Prop
  | [], [] => True
  | p :: r, q :: r' => p.1 = q.1 ∧ opd x p.2 = q.2 ∧ Parts x r r'
  | _, _ => False

theorem Parts.eq : ∀ {ps : List (Nat × Operand)} {ds : List (Nat × D)}, Parts x ps ds → partsD x ps.toArray = ds
  | [], [], _ => rfl
  | p :: r, (i, d) :: r', h => by
    have := Parts.eq h.2.2
    simp only [partsD, List.map_cons] at this ⊢
    rw [this, h.1, h.2.1]
  | [], _ :: _, h => h.elim
  | _ :: _, [], h => h.elim

def solid : D → Bool
  | .junk => false
  | _ => true

theorem parts_solid {ps : List (Nat × D)} (h : ps.all (fun p => solid p.2) = true) : ∀ p ∈ ps, p.2 ≠ .junk := fun p hp he => by
  have := List.all_eq_true.1 h p hp
  rw [he] at this
  cases this

theorem still_bld {t : TypeId} {ps : List (Nat × Operand)} {pl : List (Nat × D)} {fs : Array Field} {places : Array (Nat × Nat)} {z : Value} {ds : List D} (ho : o.op = .build t ps.toArray) (hz : ∀ w, (zeroValue t).run P w = .ok z w)
    (hu : ∀ w, (underlying t).run P w = .ok (.struct fs) w) (hp : ∀ w, (fs.mapM fun f => do pure (f.offset, ← sizeOf f.type) : Sem (Array (Nat × Nat))).run P w = .ok places w)
    (hps : Parts x ps pl) (hj : pl.all (fun p => solid p.2) = true) (hd : fillD (places[·]?) (z.cells.toList.map .v) pl = some ds) : Still P G x o .none (.agg ds) := by
  refine still_build ho hz hu hp ?_ ?_
  · rw [hps.eq]; exact parts_solid hj
  · rw [hps.eq]; exact hd

theorem still_bldA {t e : TypeId} {n sz : Nat} {ps : List (Nat × Operand)} {pl : List (Nat × D)} {z : Value} {ds : List D} (ho : o.op = .build t ps.toArray) (hz : ∀ w, (zeroValue t).run P w = .ok z w)
    (hu : ∀ w, (underlying t).run P w = .ok (.array n e) w) (hs : ∀ w, (sizeOf e).run P w = .ok sz w)
    (hps : Parts x ps pl) (hj : pl.all (fun p => solid p.2) = true) (hd : fillD (fun i => some (i * sz, sz)) (z.cells.toList.map .v) pl = some ds) : Still P G x o .none (.agg ds) := by
  refine still_buildA ho hz hu hs ?_ ?_
  · rw [hps.eq]; exact parts_solid hj
  · rw [hps.eq]; exact hd

theorem OD.bldS {t e : TypeId} {tt len sz : Nat} {ps : List (Nat × Operand)} {pl : List (Nat × D)} {z : Value} {zvs : List Value} {ds : List D} (hw : Wants ops x o true) (ho : o.op = .buildSlice t len ps.toArray) (hdst : o.dst = some tt) (hz : ∀ w, (zeroValue e).run P w = .ok z w)
    (hu : ∀ w, (underlying t).run P w = .ok (.slice e) w) (hs : ∀ w, (sizeOf e).run P w = .ok sz w) (hl : Nat.ble 1 (len * sz) = true) (hl2 : Nat.ble (len * sz) (2 ^ 24) = true) (hzs : (Array.range (len * sz)).map (fun i => z.cells[i % z.cells.size]!) = zvs.toArray)
    (hps : Parts x ps pl) (hj : pl.all (fun p => solid p.2) = true) (hd : fillD (fun i => some (i * sz, sz)) (zvs.map .v) pl = some ds)
    (k : ∀ b, OD P C ops l ⟨x.n, (tt, .v (.slice (some ⟨b, 0, none⟩) len len)) :: x.env, ⟨b, e, ds.length, ds⟩ :: x.S⟩ Q) : OD P C ops (o :: l) x Q := by
  refine OD.eff hw (eff_buildSlice (zs := zvs.map .v) (ds := ds) ho hdst hz hu hs (Nat.le_of_ble_eq_true hl) (Nat.le_of_ble_eq_true hl2) ?_ ?_ ?_ ?_) ?_
  · rw [hzs]; congr 1; rw [List.map_map]; exact (List.map_id zvs).symm
  · intro d hd
    obtain ⟨u, _, rfl⟩ := List.mem_map.1 hd
    exact ⟨u, rfl⟩
  · rw [hps.eq]; exact parts_solid hj
  · rw [hps.eq]; exact hd
  · rintro _ ⟨b, rfl⟩; exact k b

theorem OD.alloc {e : TypeId} {z : Value} {t : Nat} {ds : List D} (hw : Wants ops x o true) (ho : o.op = .alloc e) (hd : o.dst = some t) (hz : ∀ w, (zeroValue e).run P w = .ok z w) (hds : z.cells.toList.map .v = ds)
    (k : ∀ b, OD P C ops l ⟨x.n, (t, .v (.pointer (some ⟨b, 0, none⟩))) :: x.env, ⟨b, e, ds.length, ds⟩ :: x.S⟩ Q) : OD P C ops (o :: l) x Q :=
  OD.eff hw (eff_alloc ho hd hz hds) fun y ⟨b, hy⟩ => hy ▸ k b

theorem OD.box {e : TypeId} {z : Operand} {t : Nat} {d : D} {ds : List D} (hw : Wants ops x o true) (ho : o.op = .box e z) (hd : o.dst = some t) (hy : opd x z = d) (hj : solid d = true) (hds : cellsOf d = ds)
    (k : ∀ b, OD P C ops l ⟨x.n, (t, .v (.pointer (some ⟨b, 0, none⟩))) :: x.env, ⟨b, e, ds.length, ds⟩ :: x.S⟩ Q) : OD P C ops (o :: l) x Q :=
  OD.eff hw (eff_box ho hd hy (fun h => by rw [h] at hj; cases hj) hds) fun y ⟨b, hy⟩ => hy ▸ k b

theorem OD.store {t : TypeId} {k b o' n : Nat} {B : Blk} {d : D} {cs' : List D} {y z : Operand} (hw : Wants ops x o true) (ho : o.op = .store t y z) (hdst : o.dst = none) (hy : opd x y = .v (.pointer (some ⟨b, o', none⟩)))
    (hk : x.S[k]? = some B) (hb : B.b = b) (hz : opd x z = d) (hj : solid d = true) (h1 : (cellsOf d).all one = true) (hn : ∀ w, (sizeOf t).run P w = .ok n w) (hln : (cellsOf d).length = n) (hl : Nat.ble (o' + n) B.cs.length = true) (hcs : setAll B.cs o' (cellsOf d) = cs')
    (K : OD P C ops l ⟨x.n, x.env, x.S.set k { B with cs := cs' }⟩ Q) : OD P C ops (o :: l) x Q :=
  OD.eff hw (eff_store ho hdst hy hk hb hz (fun h => by rw [h] at hj; cases hj) h1 hn hln (Nat.le_of_ble_eq_true hl) hcs) fun y hy => hy ▸ K

/-- A call with a contract that says one thing. -/
theorem OD.call {f t : Nat} {fo : Operand} {as : Array Operand} {ts : Array TypeId} {args : List D} {Sf R : List Blk} {post : D → List Blk → Prop} (hw : Wants ops x o true) (ho : o.op = .call { callee := .value fo, args := as, argTypes := ts }) (hd : o.dst = some t)
    (hf : fo = .func f) (hcall : ∀ args w, (callFunc f args).run P w = .ok (.enter f args) w) (hc : VC P C.G f args Sf post) (ha : Opds x as.toList args) (hp : x.S.Perm (Sf ++ R))
    (K : ∀ r S', post r S' → OD P C ops l ⟨x.n, (t, r) :: x.env, S' ++ R⟩ Q) : OD P C ops (o :: l) x Q :=
  OD.eff hw (eff_call ho hd hf hcall ha.eq hp hc) fun y ⟨r, S', h, hy⟩ => hy ▸ K r S' h

theorem OD.callP {f t : Nat} {fo : Operand} {as : Array Operand} {ts : Array TypeId} {args : List D} {r : D} (hw : Wants ops x o true) (ho : o.op = .call { callee := .value fo, args := as, argTypes := ts }) (hd : o.dst = some t)
    (hf : fo = .func f) (hcall : ∀ args w, (callFunc f args).run P w = .ok (.enter f args) w) (hc : VP P C.G f args r) (ha : Opds x as.toList args)
    (K : OD P C ops l (x.put t r) Q) : OD P C ops (o :: l) x Q :=
  OD.call hw ho hd hf hcall hc ha (perm_none _) fun r' S' ⟨h1, h2⟩ => by subst h1 h2; exact K

theorem OD.callv {f t : Nat} {fo : Operand} {as : Array Operand} {ts : Array TypeId} {args caps all : List D} {Sf R : List Blk} {post : D → List Blk → Prop} (hw : Wants ops x o true) (ho : o.op = .call { callee := .value fo, args := as, argTypes := ts }) (hd : o.dst = some t)
    (hf : opd x fo = .clo (.func f) caps) (hcall : ∀ args w, (callFunc f args).run P w = .ok (.enter f args) w) (hc : VC P C.G f all Sf post) (hall : args ++ caps = all) (ha : Opds x as.toList args) (hp : x.S.Perm (Sf ++ R))
    (K : ∀ r S', post r S' → OD P C ops l ⟨x.n, (t, r) :: x.env, S' ++ R⟩ Q) : OD P C ops (o :: l) x Q :=
  OD.eff hw (eff_callv ho hd hf hcall (by rw [ha.eq, hall]) hp hc) fun y ⟨r, S', h, hy⟩ => hy ▸ K r S' h

theorem OD.append {s y : Operand} {t e tt sz bytes n m b cap k : Nat} {z : Value} {B : Blk} {cs : List D} (hw : Wants ops x o true) (ho : o.op = .call { callee := .builtin .append, args := #[s, y], argTypes := #[t, t] }) (hd : o.dst = some tt)
    (ht : P.underlying t = some (.slice e)) (hi : (P.info? e).map (fun i => (i.zero, i.size, i.bytes)) = some (some z, sz, bytes)) (hzs : z.cells.size = sz) (hsz : 0 < sz)
    (hs : opd x s = .v (.slice (some ⟨b, 0, none⟩) n cap)) (hk : x.S[k]? = some B) (hb : B.b = b) (he : B.e = e) (hsize : B.size = cap * sz) (hl : B.cs.length = n * sz) (hn : n ≤ cap) (hcap : cap ≤ maxLen)
    (hy : opd x y = .list sz cs m) (hone : ∀ d ∈ cs, one d = true) (hm : 0 < m) (h63 : n + m ≤ maxLen) (hbytes : (n + m) * bytes ≤ 140737488355328)
    (K : ∀ b' cap', n + m ≤ cap' → cap' ≤ maxLen → OD P C ops l ⟨x.n, (tt, .v (.slice (some ⟨b', 0, none⟩) (n + m) cap')) :: x.env, ⟨b', e, cap' * sz, B.cs ++ cs⟩ :: x.S.eraseIdx k⟩ Q) : OD P C ops (o :: l) x Q :=
  OD.eff hw (eff_append ho hd ht hi hzs hsz hs hk hb he hsize hl hn hcap hy hone hm h63 hbytes) fun y ⟨b', cap', h1, h2, hy⟩ => hy ▸ K b' cap' h1 h2

theorem OD.appendNil {s y : Operand} {t e tt sz bytes m : Nat} {z : Value} {cs : List D} (hw : Wants ops x o true) (ho : o.op = .call { callee := .builtin .append, args := #[s, y], argTypes := #[t, t] }) (hd : o.dst = some tt)
    (ht : P.underlying t = some (.slice e)) (hi : (P.info? e).map (fun i => (i.zero, i.size, i.bytes)) = some (some z, sz, bytes)) (hzs : z.cells.size = sz) (hsz : 0 < sz)
    (hs : opd x s = .v (.slice none 0 0)) (hy : opd x y = .list sz cs m) (hone : ∀ d ∈ cs, one d = true) (hm : 0 < m) (h63 : m ≤ maxLen) (hbytes : m * bytes ≤ 140737488355328)
    (K : ∀ b' cap', m ≤ cap' → cap' ≤ maxLen → OD P C ops l ⟨x.n, (tt, .v (.slice (some ⟨b', 0, none⟩) m cap')) :: x.env, ⟨b', e, cap' * sz, cs⟩ :: x.S⟩ Q) : OD P C ops (o :: l) x Q :=
  OD.eff hw (eff_appendNil ho hd ht hi hzs hsz hs hy hone hm h63 hbytes) fun y ⟨b', cap', h1, h2, hy⟩ => hy ▸ K b' cap' h1 h2

theorem OD.split {t : Nat} {b : Bool} (hb : look t x.env = .v (.bool b)) (h1 : b = true → OD P C ops l x Q) (h2 : b = false → OD P C ops l x Q) : OD P C ops l x Q := by
  cases h : b
  · exact h2 h
  · exact h1 h

/-- A nil check that is passed. -/
theorem still_nilCheck {z : Operand} {a' : Addr} (ho : o.op = .nilCheck z) (hz : opd x z = .v (.pointer (some a'))) : Still P G x o .none (.v (.pointer (some a'))) := fun C a w _ h =>
  ⟨_, .v _, fun w' _ => by unfold execOp; simp only [ho, h.flat hz]; rfl⟩
theorem still_nilCheckI {z : Operand} {cs : List D} {off : Nat} (ho : o.op = .nilCheck z) (hz : opd x z = .iptr cs off) : Still P G x o .none (.iptr cs off) := fun C a w _ h => by
  have hr := h.eval z
  rw [hz] at hr
  generalize hg : a.eval z = u at hr
  cases hr with
  | iptr _ _ b o'' g hb hL hc hrr => exact ⟨_, .iptr cs off b o'' g hb hL hc hrr, fun w' _ => by unfold execOp; simp only [ho, hg]; rfl⟩

theorem still_fn {fn : Fn} {caps : Array Operand} {ds : List D} (ho : o.op = .makeFunc fn #[] caps) (hd : Opds x caps.toList ds) : Still P G x o .none (.clo fn ds) := still_func ho hd.eq

/-! ### Lists of structs -/

theorem fm_len {α : Type} {g : α → List D} {sz : Nat} (hg : ∀ a, (g a).length = sz) : ∀ (ls : List α), (ls.flatMap g).length = ls.length * sz
  | [] => by simp
  | a :: r => by rw [List.flatMap_cons, List.length_append, hg, fm_len hg r, List.length_cons, Nat.add_mul]; omega

theorem fm_drop {α : Type} {g : α → List D} {sz : Nat} (hg : ∀ a, (g a).length = sz) : ∀ (ls : List α) (i : Nat), (ls.flatMap g).drop (i * sz) = (ls.drop i).flatMap g
  | [], i => by simp
  | a :: r, 0 => by simp
  | a :: r, i + 1 => by
    rw [List.flatMap_cons, List.drop_succ_cons, ← fm_drop hg r i, Nat.add_mul, Nat.one_mul, Nat.add_comm, ← List.drop_drop]
    congr 1
    rw [← hg a, List.drop_left]

theorem fm_take {α : Type} {g : α → List D} {sz : Nat} (hg : ∀ a, (g a).length = sz) : ∀ (ls : List α) (i : Nat), (ls.flatMap g).take (i * sz) = (ls.take i).flatMap g
  | [], i => by simp
  | a :: r, 0 => by simp
  | a :: r, i + 1 => by
    rw [List.flatMap_cons, List.take_succ_cons, List.flatMap_cons, ← fm_take hg r i, Nat.add_mul, Nat.one_mul, Nat.add_comm, ← hg a, List.take_length_add_append]

/-- One element's cells. -/
theorem fm_el {α : Type} {g : α → List D} {sz : Nat} (hg : ∀ a, (g a).length = sz) {ls : List α} {i : Nat} (hi : i < ls.length) : ((ls.flatMap g).drop (i * sz)).take sz = g ls[i] := by
  rw [fm_drop hg, List.drop_eq_getElem_cons hi, List.flatMap_cons, ← hg ls[i], List.take_left]

theorem fm_cell {α : Type} {g : α → List D} {sz : Nat} (hg : ∀ a, (g a).length = sz) {ls : List α} {i j : Nat} {d : D} (hi : i < ls.length) (hd : (g ls[i])[j]? = some d) : (ls.flatMap g)[i * sz + j]? = some d := by
  have h := fm_el hg hi
  have hj := (List.getElem?_eq_some_iff.1 hd).1
  rw [hg] at hj
  rw [← hd, ← h, List.getElem?_take_of_lt hj, List.getElem?_drop]

theorem fm_cell0 {α : Type} {g : α → List D} {sz : Nat} (hg : ∀ a, (g a).length = sz) {ls : List α} {i : Nat} {d : D} (hi : i < ls.length) (hd : (g ls[i])[0]? = some d) : (ls.flatMap g)[i * sz]? = some d := fm_cell hg hi hd

theorem fm_one {α : Type} {g : α → List D} (hg : ∀ a, (g a).all one = true) (ls : List α) : ∀ d ∈ ls.flatMap g, one d = true := fun d hd => by
  obtain ⟨a, _, h⟩ := List.mem_flatMap.1 hd
  exact List.all_eq_true.1 (hg a) d h

/-- The head of a list of structs. -/
theorem still_fhead {α : Type} {g : α → List D} {t e : TypeId} {sz h' : Nat} (hg : ∀ a, (g a).length = sz) {ls : List α} {y : Operand} {lo hi : Option Operand} (ho : o.op = .slice t y lo hi none) (hy : opd x y = .list sz (ls.flatMap g) ls.length) (hlo : bound x lo 0 0) (hhi : bound x hi h' ls.length)
    (hu : ∀ w, (underlying t).run P w = .ok (.slice e) w) (hs : ∀ w, (sizeOf e).run P w = .ok sz w) (h2 : h' ≤ ls.length) : Still P G x o .none (.list sz ((ls.take h').flatMap g) (ls.take h').length) := by
  have := still_slice (P := P) (G := G) ho hy hlo hhi hu hs (Nat.zero_le _) h2
  rw [Nat.zero_mul, List.drop_zero, Nat.sub_zero, fm_take hg] at this
  rw [List.length_take, Nat.min_eq_left h2]
  exact this

/-- Its tail. -/
theorem still_ftail {α : Type} {g : α → List D} {t e : TypeId} {sz l' : Nat} (hg : ∀ a, (g a).length = sz) {ls : List α} {y : Operand} {lo hi : Option Operand} (ho : o.op = .slice t y lo hi none) (hy : opd x y = .list sz (ls.flatMap g) ls.length) (hlo : bound x lo l' 0) (hhi : bound x hi ls.length ls.length)
    (hu : ∀ w, (underlying t).run P w = .ok (.slice e) w) (hs : ∀ w, (sizeOf e).run P w = .ok sz w) (h2 : l' ≤ ls.length) : Still P G x o .none (.list sz ((ls.drop l').flatMap g) (ls.drop l').length) := by
  have := still_slice (P := P) (G := G) ho hy hlo hhi hu hs h2 (Nat.le_refl _)
  rw [fm_drop hg, List.take_of_length_le (by rw [fm_len hg, List.length_drop]; exact Nat.le_refl _)] at this
  rw [List.length_drop]
  exact this

end Go.Proofs.YtcogdagfcndbfaaDoor.V
