/-
  A walk at the level of values. Part 13: rules that go by what an operand reads as.
-/
import Derived.Test.YtcogdagfcndbfaaDoorVc
namespace Go.Proofs.YtcogdagfcndbfaaDoor.V
open Go.RowKit
set_option linter.unusedVariables false
set_option linter.unusedSimpArgs false

variable {P : Program} {G : List (Nat × List Value)} {x : St} {o : Oper} {S : List Blk}

/-- What an operation makes of an operand that reads as d0 (S: what is owned). -/
def R1 (P : Program) (G : List (Nat × List Value)) (S : List Blk) (mk : Operand → Op) (d0 : D) (k : Rd) (d : D) : Prop := ∀ x o y, o.op = mk y → opd x y = d0 → x.S = S → Still P G x o k d

theorem still_r1 {mk : Operand → Op} {y : Operand} {d0 d : D} {k : Rd} (ho : o.op = mk y) (hy : opd x y = d0) (H : R1 P G x.S mk d0 k d) : Still P G x o k d := H x o y ho hy rfl

/-- The same with two operands. -/
def R2 (P : Program) (G : List (Nat × List Value)) (S : List Blk) (mk : Operand → Operand → Op) (d0 d1 : D) (k : Rd) (d : D) : Prop := ∀ x o y z, o.op = mk y z → opd x y = d0 → opd x z = d1 → x.S = S → Still P G x o k d

theorem still_r2 {mk : Operand → Operand → Op} {y z : Operand} {d0 d1 d : D} {k : Rd} (ho : o.op = mk y z) (hy : opd x y = d0) (hz : opd x z = d1) (H : R2 P G x.S mk d0 d1 k d) : Still P G x o k d := H x o y z ho hy hz rfl

theorem ld_blk {t k b o' : Nat} {B : Blk} {d : D} (hk : S[k]? = some B) (hb : B.b = b) (ha : ∀ w, (isAgg t).run P w = .ok false w) (hd : B.cs[o']? = some d) : R1 P G S (Op.load t) (.v (.pointer (some ⟨b, o', none⟩))) (.blk k) d := fun x o y ho hy hS => still_load ho hy (hS ▸ hk) hb ha hd
theorem ld_blks {t k b o' n : Nat} {B : Blk} {ds : List D} (hk : S[k]? = some B) (hb : B.b = b) (ha : ∀ w, (isAgg t).run P w = .ok true w) (hn : ∀ w, (sizeOf t).run P w = .ok n w) (hl : ds.length = n) (hd : (B.cs.drop o').take n = ds) : R1 P G S (Op.load t) (.v (.pointer (some ⟨b, o', none⟩))) (.blk k) (.agg ds) := fun x o y ho hy hS => still_loads ho hy (hS ▸ hk) hb ha hn hl hd
theorem ld_i {t o' : Nat} {cs : List D} {d : D} (ha : ∀ w, (isAgg t).run P w = .ok false w) (hd : cs[o']? = some d) : R1 P G S (Op.load t) (.iptr cs o') .imm d := fun x o y ho hy _ => still_iload ho hy ha hd
theorem ld_is {t o' n : Nat} {cs ds : List D} (ha : ∀ w, (isAgg t).run P w = .ok true w) (hn : ∀ w, (sizeOf t).run P w = .ok n w) (hl : ds.length = n) (hd : (cs.drop o').take n = ds) : R1 P G S (Op.load t) (.iptr cs o') .imm (.agg ds) := fun x o y ho hy _ => still_iloads ho hy ha hn hl hd
theorem ld_fm {α : Type} {g : α → List D} {t sz i j : Nat} {ls : List α} {d : D} (hg : ∀ a, (g a).length = sz) (ha : ∀ w, (isAgg t).run P w = .ok false w) (hi : i < ls.length) (hd : (g ls[i])[j]? = some d) : R1 P G S (Op.load t) (.iptr (ls.flatMap g) (i * sz + j)) .imm d := ld_i ha (fm_cell hg hi hd)
theorem ld_fm0 {α : Type} {g : α → List D} {t sz i : Nat} {ls : List α} {d : D} (hg : ∀ a, (g a).length = sz) (ha : ∀ w, (isAgg t).run P w = .ok false w) (hi : i < ls.length) (hd : (g ls[i])[0]? = some d) : R1 P G S (Op.load t) (.iptr (ls.flatMap g) (i * sz)) .imm d := ld_i ha (fm_cell0 hg hi hd)
theorem ld_fms {α : Type} {g : α → List D} {t sz i : Nat} {ls : List α} (hg : ∀ a, (g a).length = sz) (ha : ∀ w, (isAgg t).run P w = .ok true w) (hn : ∀ w, (sizeOf t).run P w = .ok sz w) (hi : i < ls.length) : R1 P G S (Op.load t) (.iptr (ls.flatMap g) (i * sz)) .imm (.agg (g ls[i])) := ld_is ha hn (hg _) (fm_el hg hi)
theorem ld_tab {t b o' : Nat} {vs : List Value} {v : Value} (hg : (b, vs) ∈ G) (ha : ∀ w, (isAgg t).run P w = .ok false w) (hd : vs[o']? = some v) : R1 P G S (Op.load t) (.v (.pointer (some ⟨b, o', none⟩))) .imm (.v v) := fun x o y ho hy _ => still_tload ho hy hg ha hd
/-- An element of a row of one's own. -/
theorem ld_row {α : Type} {g : α → List D} {t k b sz i j : Nat} {B : Blk} {ls : List α} {d : D} (hg : ∀ a, (g a).length = sz) (hk : S[k]? = some B) (hb : B.b = b) (hcs : B.cs = ls.flatMap g) (ha : ∀ w, (isAgg t).run P w = .ok false w) (hi : i < ls.length) (hd : (g ls[i])[j]? = some d) : R1 P G S (Op.load t) (.v (.pointer (some ⟨b, 0 + i * sz + j, none⟩))) (.blk k) d :=
  ld_blk hk hb ha (by rw [hcs, Nat.zero_add]; exact fm_cell hg hi hd)
theorem ld_row0 {α : Type} {g : α → List D} {t k b sz i : Nat} {B : Blk} {ls : List α} {d : D} (hg : ∀ a, (g a).length = sz) (hk : S[k]? = some B) (hb : B.b = b) (hcs : B.cs = ls.flatMap g) (ha : ∀ w, (isAgg t).run P w = .ok false w) (hi : i < ls.length) (hd : (g ls[i])[0]? = some d) : R1 P G S (Op.load t) (.v (.pointer (some ⟨b, 0 + i * sz, none⟩))) (.blk k) d :=
  ld_blk hk hb ha (by rw [hcs, Nat.zero_add]; exact fm_cell0 hg hi hd)
theorem ld_rows {α : Type} {g : α → List D} {t k b sz i : Nat} {B : Blk} {ls : List α} (hg : ∀ a, (g a).length = sz) (hk : S[k]? = some B) (hb : B.b = b) (hcs : B.cs = ls.flatMap g) (ha : ∀ w, (isAgg t).run P w = .ok true w) (hn : ∀ w, (sizeOf t).run P w = .ok sz w) (hi : i < ls.length) : R1 P G S (Op.load t) (.v (.pointer (some ⟨b, 0 + i * sz, none⟩))) (.blk k) (.agg (g ls[i])) :=
  ld_blks hk hb ha hn (hg _) (by rw [hcs, Nat.zero_add]; exact fm_el hg hi)

theorem fa_ptr {s : TypeId} {i n off b o' : Nat} {f : Field} {fs : Array Field} (hu : ∀ w, (underlying s).run P w = .ok (.struct fs) w) (hf : fs[i]? = some f) (hn : ∀ w, (sizeOf f.type).run P w = .ok (n + 1) w) (hoff : f.offset = off) : R1 P G S (fun y => Op.fieldAddr s y i) (.v (.pointer (some ⟨b, o', none⟩))) .none (.v (.pointer (some ⟨b, o' + off, none⟩))) := fun x o y ho hy _ => still_field ho hy hu hf hn hoff
theorem fa_iptr {s : TypeId} {i n off o' : Nat} {cs : List D} {f : Field} {fs : Array Field} (hu : ∀ w, (underlying s).run P w = .ok (.struct fs) w) (hf : fs[i]? = some f) (hn : ∀ w, (sizeOf f.type).run P w = .ok (n + 1) w) (hoff : f.offset = off) : R1 P G S (fun y => Op.fieldAddr s y i) (.iptr cs o') .none (.iptr cs (o' + off)) := fun x o y ho hy _ => still_ifield ho hy hu hf hn hoff

theorem nc_ptr {a' : Addr} : R1 P G S Op.nilCheck (.v (.pointer (some a'))) .none (.v (.pointer (some a'))) := fun x o y ho hy _ => still_nilCheck ho hy
theorem nc_iptr {cs : List D} {off : Nat} : R1 P G S Op.nilCheck (.iptr cs off) .none (.iptr cs off) := fun x o y ho hy _ => still_nilCheckI ho hy

theorem len_list {t e : TypeId} {sz len : Nat} {cs : List D} {ts : Array TypeId} (ht : ts = #[t]) (hu : ∀ w, (underlying t).run P w = .ok (.slice e) w) : R1 P G S (fun y => .call { callee := .builtin .len, args := #[y], argTypes := ts }) (.list sz cs len) .none (.v (.int .i64 len)) := fun x o y ho hy _ => still_len ho ht hy hu
theorem len_row {t e : TypeId} {ad : Option Addr} {len cap : Nat} {ts : Array TypeId} (ht : ts = #[t]) (hu : ∀ w, (underlying t).run P w = .ok (.slice e) w) : R1 P G S (fun y => .call { callee := .builtin .len, args := #[y], argTypes := ts }) (.v (.slice ad len cap)) .none (.v (.int .i64 len)) := fun x o y ho hy _ => still_rlen ho ht hy hu

theorem ix_list {t e : TypeId} {len sz j : Nat} {cs : List D} {k : IntKind} {i : Int} (hu : ∀ w, (underlying t).run P w = .ok (.slice e) w) (hs : ∀ w, (sizeOf e).run P w = .ok sz w) (hi : i = j) (hj : j < len) : R2 P G S (Op.indexAddr t) (.list sz cs len) (.v (.int k i)) .none (.iptr cs (j * sz)) := fun x o y z ho hy hz _ => still_idx ho hy hz hu hs hi hj
theorem ix_row {t e : TypeId} {b o' len cap sz j : Nat} {k : IntKind} {i : Int} (hu : ∀ w, (underlying t).run P w = .ok (.slice e) w) (hs : ∀ w, (sizeOf e).run P w = .ok sz w) (hi : i = j) (hj : j < len) : R2 P G S (Op.indexAddr t) (.v (.slice (some ⟨b, o', none⟩) len cap)) (.v (.int k i)) .none (.v (.pointer (some ⟨b, o' + j * sz, none⟩))) := fun x o y z ho hy hz _ => still_ridx ho hy hz hu hs hi hj
theorem ix_arr {t e : TypeId} {b o' len sz j : Nat} {k : IntKind} {i : Int} (hu : ∀ w, (underlying t).run P w = .ok (.array len e) w) (hs : ∀ w, (sizeOf e).run P w = .ok sz w) (hi : i = j) (hj : j < len) : R2 P G S (Op.indexAddr t) (.v (.pointer (some ⟨b, o', none⟩))) (.v (.int k i)) .none (.v (.pointer (some ⟨b, o' + j * sz, none⟩))) := fun x o y z ho hy hz _ => still_aidx ho hy hz hu hs hi hj

/-- The bounds of a slice expression, once they are read. -/
def Bd (x : St) (y : Option Operand) (n : Nat) : Prop := match y with | some y => ∃ (k : IntKind), opd x y = .v (.int k n) | none => True
def Rs (P : Program) (G : List (Nat × List Value)) (t : TypeId) (lo hi : Option Operand) (l h : Nat) (d0 : D) (d : D) : Prop := ∀ x o y, o.op = .slice t y lo hi none → opd x y = d0 → Bd x lo l → Bd x hi h → Still P G x o .none d
theorem still_rs {t : TypeId} {lo hi : Option Operand} {l h : Nat} {y : Operand} {d0 d : D} (ho : o.op = .slice t y lo hi none) (hy : opd x y = d0) (hl : Bd x lo l) (hh : Bd x hi h) (H : Rs P G t lo hi l h d0 d) : Still P G x o .none d := H x o y ho hy hl hh
theorem bound_of {y : Option Operand} {n df : Nat} (h : Bd x y n) (hd : y = none → n = df) : bound x y n df := by
  cases y with
  | none => exact hd rfl
  | some y => obtain ⟨k, hk⟩ := h; exact ⟨k, _, hk, rfl⟩
theorem sl_head {α : Type} {g : α → List D} {t e : TypeId} {sz h' : Nat} {lo hi : Option Operand} (hg : ∀ a, (g a).length = sz) {ls : List α} (hhi : hi = none → h' = ls.length)
    (hu : ∀ w, (underlying t).run P w = .ok (.slice e) w) (hs : ∀ w, (sizeOf e).run P w = .ok sz w) (h2 : h' ≤ ls.length) : Rs P G t lo hi 0 h' (.list sz (ls.flatMap g) ls.length) (.list sz ((ls.take h').flatMap g) (ls.take h').length) := fun x o y ho hy hl hh =>
  still_fhead hg ho hy (bound_of hl fun _ => rfl) (bound_of hh hhi) hu hs h2
theorem sl_tail {α : Type} {g : α → List D} {t e : TypeId} {sz l' : Nat} {lo : Option Operand} {ls : List α} {h' : Nat} (hh' : h' = ls.length) (hg : ∀ a, (g a).length = sz) (hlo : lo = none → l' = 0)
    (hu : ∀ w, (underlying t).run P w = .ok (.slice e) w) (hs : ∀ w, (sizeOf e).run P w = .ok sz w) (h2 : l' ≤ ls.length) : Rs P G t lo none l' h' (.list sz (ls.flatMap g) ls.length) (.list sz ((ls.drop l').flatMap g) (ls.drop l').length) := fun x o y ho hy hl hh => by
  subst hh'
  exact still_ftail hg ho hy (bound_of hl hlo) rfl hu hs h2
theorem sl_list {t e : TypeId} {sz l' h' len : Nat} {cs : List D} {lo hi : Option Operand} (hlo : lo = none → l' = 0) (hhi : hi = none → h' = len)
    (hu : ∀ w, (underlying t).run P w = .ok (.slice e) w) (hs : ∀ w, (sizeOf e).run P w = .ok sz w) (h1 : l' ≤ h') (h2 : h' ≤ len) : Rs P G t lo hi l' h' (.list sz cs len) (.list sz ((cs.drop (l' * sz)).take ((h' - l') * sz)) (h' - l')) := fun x o y ho hy hl hh =>
  still_slice ho hy (bound_of hl hlo) (bound_of hh hhi) hu hs h1 h2
theorem sl_row {t e : TypeId} {sz h' b o' len cap : Nat} {lo hi : Option Operand} (hhi : hi = none → h' = len)
    (hu : ∀ w, (underlying t).run P w = .ok (.slice e) w) (hs : ∀ w, (sizeOf e).run P w = .ok sz w) (h2 : h' ≤ cap) : Rs P G t lo hi 0 h' (.v (.slice (some ⟨b, o', none⟩) len cap)) (.v (.slice (some ⟨b, o', none⟩) h' cap)) := fun x o y ho hy hl hh =>
  still_rslice ho hy (bound_of hl fun _ => rfl) (bound_of hh hhi) hu hs h2
theorem sl_str {t : TypeId} {s : ByteArray} {l' h' : Nat} {lo hi : Option Operand} (hlo : lo = none → l' = 0) (hhi : hi = none → h' = s.size)
    (hu : ∀ w, (underlying t).run P w = .ok .string w) (h1 : l' ≤ h') (h2 : h' ≤ s.size) : Rs P G t lo hi l' h' (.v (.string s)) (.v (.string (s.extract l' h'))) := fun x o y ho hy hl hh =>
  still_sslice ho hy (bound_of hl hlo) (bound_of hh hhi) hu h1 h2

/-- append of structs onto a list of one's own. -/
theorem OD.appendG {C : Ctx} {Q : Exit → St → Prop} {ops : Array Oper} {l : List Oper} {α : Type} {g : α → List D} {ls new : List α} {s y : Operand} {t e tt sz bytes cap : Nat} {ad : Option Addr} {z : Value} {Sq R : List Blk} (hg : ∀ a, (g a).length = sz) (hg1 : ∀ a, (g a).all one = true) (hw : Wants ops x o true) (ho : o.op = .call { callee := .builtin .append, args := #[s, y], argTypes := #[t, t] }) (hd : o.dst = some tt)
    (ht : P.underlying t = some (.slice e)) (hi : (P.info? e).map (fun i => (i.zero, i.size, i.bytes)) = some (some z, sz, bytes)) (hzs : z.cells.size = sz) (hsz : 0 < sz)
    (hs : opd x s = .v (.slice ad ls.length cap)) (ho' : OwnL e sz (ls.flatMap g) ls.length ad cap Sq) (hp : x.S.Perm (Sq ++ R))
    (hy : opd x y = .list sz (new.flatMap g) new.length) (hm : 0 < new.length) (h63 : ls.length + new.length ≤ maxLen) (hbytes : (ls.length + new.length) * bytes ≤ 140737488355328)
    (K : ∀ b' cap', (ls ++ new).length ≤ cap' → cap' ≤ maxLen → OD P C ops l ⟨x.n, (tt, .v (.slice (some ⟨b', 0, none⟩) (ls ++ new).length cap')) :: x.env, ⟨b', e, cap' * sz, (ls ++ new).flatMap g⟩ :: R⟩ Q) : OD P C ops (o :: l) x Q :=
  OD.appendOwn hw ho hd ht hi hzs hsz hs ho' hp (fm_len hg ls) hy (fm_one hg1 new) hm h63 hbytes fun b' cap' h1 h2 => by
    have := K b' cap' (by rw [List.length_append]; exact h1) h2
    rw [List.length_append, List.flatMap_append] at this
    exact this

/-- Of a block no more is told than its head. -/
theorem Wk.shrink {n : Nat} {l : List (Nat × D)} {S : List Blk} {k : Nat} {B : Blk} {cs' : List D} (hk : S[k]? = some B) (hp : cs' <+: B.cs) : Wk ⟨n, l, S⟩ ⟨n, l, S.set k { B with cs := cs' }⟩ := fun C a w h => by
  have hkl := (List.getElem?_eq_some_iff.1 hk).1
  have hkB := (List.getElem?_eq_some_iff.1 hk).2
  have hbks : bks (S.set k { B with cs := cs' }) = bks S := by
    unfold bks
    rw [List.map_set]
    apply List.ext_getElem (by simp)
    intro i q1 q2
    rw [List.getElem_set]
    split
    · rename_i e; subst e; simp [hkB]
    · rfl
  have hlive : live C.X (S.set k { B with cs := cs' }) = live C.X S := by funext b; simp only [live, hbks]
  refine ⟨h.defers, h.size, fun t ht => ?_, ⟨fun B' hB' => ?_, ?_⟩, ?_, h.ex, h.tab⟩
  · simp only [hlive]; exact h.env t ht
  · simp only [hlive]
    obtain ⟨j, hj, hje⟩ := List.mem_iff_getElem.1 hB'
    rw [List.length_set] at hj
    rw [List.getElem_set] at hje
    by_cases e : k = j
    · rw [if_pos e] at hje
      subst hje
      obtain ⟨r0, cur, r1, r2, r3, r4⟩ := h.own.at_ B (List.mem_of_getElem? hk)
      refine ⟨r0, cur, r1, r2, Nat.le_trans hp.length_le r3, fun i hi => ?_⟩
      obtain ⟨u, hu, hq⟩ := r4 i (Nat.lt_of_lt_of_le hi hp.length_le)
      refine ⟨u, hu, ?_⟩
      have : cs'[i] = B.cs[i]'(Nat.lt_of_lt_of_le hi hp.length_le) := List.IsPrefix.getElem hp hi
      simp only [this]
      exact hq
    · rw [if_neg e] at hje
      subst hje
      exact h.own.at_ _ (List.getElem_mem hj)
  · simp only [hbks]; exact h.own.apart
  · simp only [hbks]; exact h.fr

theorem OD.shrink {C : Ctx} {Q : Exit → St → Prop} {ops : Array Oper} {l : List Oper} {k : Nat} {B : Blk} {cs' : List D} (hk : x.S[k]? = some B) (hp : cs' <+: B.cs) (K : OD P C ops l ⟨x.n, x.env, x.S.set k { B with cs := cs' }⟩ Q) : OD P C ops l x Q := OD.wk (Wk.shrink hk hp) K

theorem fm_prefix {α : Type} {g : α → List D} (ls new : List α) : ls.flatMap g <+: (ls ++ new).flatMap g := by rw [List.flatMap_append]; exact List.prefix_append _ _

end Go.Proofs.YtcogdagfcndbfaaDoor.V
