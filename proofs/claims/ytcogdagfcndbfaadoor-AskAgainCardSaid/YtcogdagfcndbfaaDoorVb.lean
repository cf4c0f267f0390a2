/-
  A walk at the level of values. Part 11: the steps of regions that draw, in the forms in which the printed walks name them.
-/
import Derived.Test.YtcogdagfcndbfaaDoorVa
namespace Go.Proofs.YtcogdagfcndbfaaDoor.V
open Go.RowKit
set_option linter.unusedVariables false
set_option linter.unusedSimpArgs false

variable {P : Program} {C : Ctx} {Q : Exit → St → Prop} {x : St} {ops : Array Oper} {o : Oper} {S1 T : List Nat} {fuel i : Nat} {ld : Array Bool}

theorem mem_bks {S : List Blk} {k : Nat} {B : Blk} (hk : S[k]? = some B) : B.b ∈ bks S := List.mem_map.2 ⟨B, List.mem_of_getElem? hk, rfl⟩

theorem safe_blk {S : List Blk} {k k0 : Nat} {B : Blk} (hk : x.S[k]? = some B) (h0 : S[k0]? = some B) : Safe x (bks S) (.blk k) := ⟨B, hk, mem_bks h0⟩

theorem AD.split {t : Nat} {b : Bool} (hb : look t x.env = .v (.bool b)) (h1 : b = true → AD P C ops S1 T fuel ld x Q) (h2 : b = false → AD P C ops S1 T fuel ld x Q) : AD P C ops S1 T fuel ld x Q := by
  cases h : b
  · exact h2 h
  · exact h1 h
theorem AD0.split {t : Nat} {b : Bool} (hb : look t x.env = .v (.bool b)) (h1 : b = true → AD0 P C ops S1 T fuel ld x Q) (h2 : b = false → AD0 P C ops S1 T fuel ld x Q) : AD0 P C ops S1 T fuel ld x Q := by
  cases h : b
  · exact h2 h
  · exact h1 h
theorem AStep.split {t : Nat} {b : Bool} (hb : look t x.env = .v (.bool b)) (h1 : b = true → AStep P C ops S1 T fuel ld x Q i) (h2 : b = false → AStep P C ops S1 T fuel ld x Q i) : AStep P C ops S1 T fuel ld x Q i := by
  cases h : b
  · exact h2 h
  · exact h1 h

theorem AStep.eff0 {post : St → Prop} (hi : ops[i]? = some o) (hw : Wants ops x o true) (h : Eff P C.G x o [] post) (k : ∀ y, post y → AD P C ops S1 T fuel (ld.setIfInBounds i true) y Q) : AStep P C ops S1 T fuel ld x Q i :=
  AStep.eff hi hw h (fun _ _ _ _ _ _ hb => by simp at hb) (fun _ hb => by simp at hb) k

theorem away {C : Ctx} {a : Act} {w : World} (h : Sim C x a w) {k : Nat} {B : Blk} (hk : x.S[k]? = some B) (hT : ∀ b ∈ T, b ∈ bks (x.S.eraseIdx k)) : ∀ b ∈ T, b ∉ [B.b] := fun b hb hm => by
  have hp : (bks x.S).Perm (B.b :: bks (x.S.eraseIdx k)) := by have := (perm_pick hk).map Blk.b; simpa [bks] using this
  have hn := (List.nodup_cons.1 (hp.nodup_iff.1 h.own.apart)).1
  have : b = B.b := by simpa using hm
  exact hn (this ▸ hT b hb)

theorem AStep.alloc {e : TypeId} {z : Value} {t : Nat} {ds : List D} (hi : ops[i]? = some o) (hw : Wants ops x o true) (ho : o.op = .alloc e) (hd : o.dst = some t) (hz : ∀ w, (zeroValue e).run P w = .ok z w) (hds : z.cells.toList.map .v = ds)
    (k : ∀ b, AD P C ops S1 T fuel (ld.setIfInBounds i true) ⟨x.n, (t, .v (.pointer (some ⟨b, 0, none⟩))) :: x.env, ⟨b, e, ds.length, ds⟩ :: x.S⟩ Q) : AStep P C ops S1 T fuel ld x Q i :=
  AStep.eff0 hi hw (eff_alloc ho hd hz hds) fun y ⟨b, hy⟩ => hy ▸ k b

theorem AStep.box {e : TypeId} {z : Operand} {t : Nat} {d : D} {ds : List D} (hi : ops[i]? = some o) (hw : Wants ops x o true) (ho : o.op = .box e z) (hd : o.dst = some t) (hy : opd x z = d) (hj : solid d = true) (hds : cellsOf d = ds)
    (k : ∀ b, AD P C ops S1 T fuel (ld.setIfInBounds i true) ⟨x.n, (t, .v (.pointer (some ⟨b, 0, none⟩))) :: x.env, ⟨b, e, ds.length, ds⟩ :: x.S⟩ Q) : AStep P C ops S1 T fuel ld x Q i :=
  AStep.eff0 hi hw (eff_box ho hd hy (fun h => by rw [h] at hj; cases hj) hds) fun y ⟨b, hy⟩ => hy ▸ k b

theorem AStep.bldS {t e : TypeId} {tt len sz : Nat} {ps : List (Nat × Operand)} {pl : List (Nat × D)} {z : Value} {zvs : List Value} {ds : List D} (hi : ops[i]? = some o) (hw : Wants ops x o true) (ho : o.op = .buildSlice t len ps.toArray) (hdst : o.dst = some tt) (hz : ∀ w, (zeroValue e).run P w = .ok z w)
    (hu : ∀ w, (underlying t).run P w = .ok (.slice e) w) (hs : ∀ w, (sizeOf e).run P w = .ok sz w) (hl : Nat.ble 1 (len * sz) = true) (hl2 : Nat.ble (len * sz) (2 ^ 24) = true) (hzs : (Array.range (len * sz)).map (fun i => z.cells[i % z.cells.size]!) = zvs.toArray)
    (hps : Parts x ps pl) (hj : pl.all (fun p => solid p.2) = true) (hd : fillD (fun i => some (i * sz, sz)) (zvs.map .v) pl = some ds)
    (k : ∀ b, AD P C ops S1 T fuel (ld.setIfInBounds i true) ⟨x.n, (tt, .v (.slice (some ⟨b, 0, none⟩) len len)) :: x.env, ⟨b, e, ds.length, ds⟩ :: x.S⟩ Q) : AStep P C ops S1 T fuel ld x Q i := by
  refine AStep.eff0 hi hw (eff_buildSlice (zs := zvs.map .v) (ds := ds) ho hdst hz hu hs (Nat.le_of_ble_eq_true hl) (Nat.le_of_ble_eq_true hl2) ?_ ?_ ?_ ?_) ?_
  · rw [hzs]; congr 1; rw [List.map_map]; exact (List.map_id zvs).symm
  · intro d hd
    obtain ⟨u, _, rfl⟩ := List.mem_map.1 hd
    exact ⟨u, rfl⟩
  · rw [hps.eq]; exact parts_solid hj
  · rw [hps.eq]; exact hd
  · rintro _ ⟨b, rfl⟩; exact k b

theorem AStep.store {t : TypeId} {k b o' n : Nat} {B : Blk} {d : D} {cs' : List D} {y z : Operand} (hi : ops[i]? = some o) (hw : Wants ops x o true) (ho : o.op = .store t y z) (hdst : o.dst = none) (hy : opd x y = .v (.pointer (some ⟨b, o', none⟩)))
    (hk : x.S[k]? = some B) (hb : B.b = b) (hz : opd x z = d) (hj : solid d = true) (h1 : (cellsOf d).all one = true) (hn : ∀ w, (sizeOf t).run P w = .ok n w) (hln : (cellsOf d).length = n) (hl : Nat.ble (o' + n) B.cs.length = true) (hcs : setAll B.cs o' (cellsOf d) = cs')
    (hT : ∀ b ∈ T, b ∈ bks (x.S.eraseIdx k))
    (K : AD P C ops S1 T fuel (ld.setIfInBounds i true) ⟨x.n, x.env, x.S.set k { B with cs := cs' }⟩ Q) : AStep P C ops S1 T fuel ld x Q i :=
  AStep.eff hi hw (eff_store ho hdst hy hk hb hz (fun h => by rw [h] at hj; cases hj) h1 hn hln (Nat.le_of_ble_eq_true hl) hcs) (fun C a w hs b' hb' => hb ▸ away hs hk hT b' hb') (fun b' hb' => by
    have : b' = b := by simpa using hb'
    subst this; rw [← hb]; exact mem_bks hk) fun y hy => hy ▸ K

theorem AStep.callP {f t : Nat} {fo : Operand} {as : Array Operand} {ts : Array TypeId} {args : List D} {r : D} (hi : ops[i]? = some o) (hw : Wants ops x o true) (ho : o.op = .call { callee := .value fo, args := as, argTypes := ts }) (hd : o.dst = some t)
    (hf : fo = .func f) (hcall : ∀ args w, (callFunc f args).run P w = .ok (.enter f args) w) (hc : VP P C.G f args r) (ha : Opds x as.toList args)
    (K : AD P C ops S1 T fuel (ld.setIfInBounds i true) (x.put t r) Q) : AStep P C ops S1 T fuel ld x Q i :=
  AStep.eff0 hi hw (eff_call ho hd hf hcall ha.eq (perm_none _) hc) fun y ⟨r', S', ⟨h1, h2⟩, hy⟩ => by subst h1 h2; exact hy ▸ K

/-- A call that owns the blocks Sf for its time: nobody else in the region looks at them first. -/
theorem AStep.call {f t : Nat} {fo : Operand} {as : Array Operand} {ts : Array TypeId} {args : List D} {Sf R : List Blk} {post : D → List Blk → Prop} (hi : ops[i]? = some o) (hw : Wants ops x o true) (ho : o.op = .call { callee := .value fo, args := as, argTypes := ts }) (hd : o.dst = some t)
    (hf : fo = .func f) (hcall : ∀ args w, (callFunc f args).run P w = .ok (.enter f args) w) (hc : VC P C.G f args Sf post) (ha : Opds x as.toList args) (hp : x.S.Perm (Sf ++ R)) (hT : ∀ b ∈ T, b ∈ bks R)
    (K : ∀ r S', post r S' → AD P C ops S1 T fuel (ld.setIfInBounds i true) ⟨x.n, (t, r) :: x.env, S' ++ R⟩ Q) : AStep P C ops S1 T fuel ld x Q i :=
  AStep.eff hi hw (eff_call ho hd hf hcall ha.eq hp hc) (fun C a w hs b hb hm => by
    have h1 : (bks x.S).Perm (bks Sf ++ bks R) := by have := hp.map Blk.b; simpa [bks] using this
    have h2 := h1.nodup_iff.1 hs.own.apart
    exact (List.nodup_append.1 h2).2.2 b hm b (hT b hb) rfl) (fun b hb => by
    have h1 : (bks x.S).Perm (bks Sf ++ bks R) := by have := hp.map Blk.b; simpa [bks] using this
    exact h1.symm.subset (List.mem_append_left _ hb)) fun y ⟨r, S', h, hy⟩ => hy ▸ K r S' h

theorem AStep.append {s y : Operand} {t e tt sz bytes n m b cap k : Nat} {z : Value} {B : Blk} {cs : List D} (hi' : ops[i]? = some o) (hw : Wants ops x o true) (ho : o.op = .call { callee := .builtin .append, args := #[s, y], argTypes := #[t, t] }) (hd : o.dst = some tt)
    (ht : P.underlying t = some (.slice e)) (hi : (P.info? e).map (fun i => (i.zero, i.size, i.bytes)) = some (some z, sz, bytes)) (hzs : z.cells.size = sz) (hsz : 0 < sz)
    (hs : opd x s = .v (.slice (some ⟨b, 0, none⟩) n cap)) (hk : x.S[k]? = some B) (hb : B.b = b) (he : B.e = e) (hsize : B.size = cap * sz) (hl : B.cs.length = n * sz) (hn : n ≤ cap) (hcap : cap ≤ maxLen)
    (hy : opd x y = .list sz cs m) (hone : ∀ d ∈ cs, one d = true) (hm : 0 < m) (h63 : n + m ≤ maxLen) (hbytes : (n + m) * bytes ≤ 140737488355328) (hT : ∀ b ∈ T, b ∈ bks (x.S.eraseIdx k))
    (K : ∀ b' cap', n + m ≤ cap' → cap' ≤ maxLen → AD P C ops S1 T fuel (ld.setIfInBounds i true) ⟨x.n, (tt, .v (.slice (some ⟨b', 0, none⟩) (n + m) cap')) :: x.env, ⟨b', e, cap' * sz, B.cs ++ cs⟩ :: x.S.eraseIdx k⟩ Q) : AStep P C ops S1 T fuel ld x Q i :=
  AStep.eff hi' hw (eff_append ho hd ht hi hzs hsz hs hk hb he hsize hl hn hcap hy hone hm h63 hbytes) (fun C a w hs b' hb' => hb ▸ away hs hk hT b' hb') (fun b' hb' => by
    have : b' = b := by simpa using hb'
    subst this; rw [← hb]; exact mem_bks hk) fun y ⟨b', cap', h1, h2, hy⟩ => hy ▸ K b' cap' h1 h2

theorem AStep.appendNil {s y : Operand} {t e tt sz bytes m : Nat} {z : Value} {cs : List D} (hi' : ops[i]? = some o) (hw : Wants ops x o true) (ho : o.op = .call { callee := .builtin .append, args := #[s, y], argTypes := #[t, t] }) (hd : o.dst = some tt)
    (ht : P.underlying t = some (.slice e)) (hi : (P.info? e).map (fun i => (i.zero, i.size, i.bytes)) = some (some z, sz, bytes)) (hzs : z.cells.size = sz) (hsz : 0 < sz)
    (hs : opd x s = .v (.slice none 0 0)) (hy : opd x y = .list sz cs m) (hone : ∀ d ∈ cs, one d = true) (hm : 0 < m) (h63 : m ≤ maxLen) (hbytes : m * bytes ≤ 140737488355328)
    (K : ∀ b' cap', m ≤ cap' → cap' ≤ maxLen → AD P C ops S1 T fuel (ld.setIfInBounds i true) ⟨x.n, (tt, .v (.slice (some ⟨b', 0, none⟩) m cap')) :: x.env, ⟨b', e, cap' * sz, cs⟩ :: x.S⟩ Q) : AStep P C ops S1 T fuel ld x Q i :=
  AStep.eff0 hi' hw (eff_appendNil ho hd ht hi hzs hsz hs hy hone hm h63 hbytes) fun y ⟨b', cap', h1, h2, hy⟩ => hy ▸ K b' cap' h1 h2

end Go.Proofs.YtcogdagfcndbfaaDoor.V
