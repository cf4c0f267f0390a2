/-
  What the proof of ParseFixed leans on, part 2 of 6: walks of the program's functions at the level of values, and plain facts of what they compute.
-/
import Derived.Test.YtjgekbmahhhokaaDoorPParseFixed1
namespace Go.Proofs.YtjgekbmahhhokaaDoor.V
open Go.RowKit
set_option linter.unusedVariables false
set_option linter.unusedSimpArgs false

variable {P : Program} {C : Ctx} {G : List (Nat × List Value)} {Q : Exit → St → Prop} {x y : St} {ops : Array Oper} {o : Oper} {ro : Nat} {α : Type}

def CI (P : Program) (C : Ctx) (ro : Nat) (c : Code) (x : St) (Q : Exit → St → Prop) : Prop := ∀ a w, Sim C x a w → c.wpIn (Fence.wide.inRound ro) 0 P (LQ C Q) a w
def ThenI (P : Program) (C : Ctx) (ro : Nat) (c : Code) (Q : Exit → St → Prop) : Exit → St → Prop
 | .normal, y => CI P C ro c y Q
 | e, y => Q e y
def NO (Q : Exit → St → Prop) : Prop := ∀ y, ¬ Q .outgrown y
theorem NO.then {c : Code} (h : NO Q) : NO (ThenI P C ro c Q) := fun y hq => h y hq
theorem NO.inBlock {id : Nat} (h : NO Q) : NO (InBlock id Q) := fun y hq => h y hq

theorem CI.wk {c : Code} (h : Wk x y) (k : CI P C ro c y Q) : CI P C ro c x Q := fun a w hs => k a w (h C a w hs)
theorem CI.perm {c : Code} {S' : List Blk} (hp : x.S.Perm S') (k : CI P C ro c ⟨x.n, x.env, S'⟩ Q) : CI P C ro c x Q := CI.wk (Wk.perm hp) k
theorem CI.skip (h : Q .normal x) : CI P C ro .skip x Q := fun a w hs => wpIn_skip (.inl ⟨x, hs, h⟩)
theorem CI.ret (h : Q .ret x) : CI P C ro .ret x Q := fun a w hs => wpIn_ret (.inl ⟨x, hs, h⟩)
theorem CI.exit {id : Nat} (h : Q (.exit id) x) : CI P C ro (.exit id) x Q := fun a w hs => wpIn_exit (.inl ⟨x, hs, h⟩)
theorem CI.seq {c d : Code} (h : CI P C ro c x (ThenI P C ro d Q)) : CI P C ro (.seq c d) x Q := fun a w hs =>
 wpIn_seq (wpIn_mono (h a w hs) fun e a' w' h => by
  rcases h with ⟨y, h1, h2⟩ | ⟨rfl, h⟩
  ·cases e <;> first | exact h2 a' w' h1 | exact .inl ⟨y, h1, h2⟩
  exact .inr ⟨rfl, h⟩)
theorem CI.cond {c : Operand} {d e : Code} {b : Bool} (hc : opd x c = .v (.bool b)) (ht : b = true → CI P C ro d x Q) (hf : b = false → CI P C ro e x Q) : CI P C ro (.cond c d e) x Q := fun a w hs =>
 wpIn_cond_split (hs.flat hc) (fun h => ht h a w hs) (fun h => hf h a w hs)
theorem CI.condT {c : Operand} {d e : Code} {b : Bool} (hc : opd x c = .v (.bool b)) (hb : b = true) (ht : CI P C ro d x Q) : CI P C ro (.cond c d e) x Q := fun a w hs =>
 wpIn_cond_true (by rw [hs.flat hc, hb]) (ht a w hs)
theorem CI.condF {c : Operand} {d e : Code} {b : Bool} (hc : opd x c = .v (.bool b)) (hb : b = false) (hf : CI P C ro e x Q) : CI P C ro (.cond c d e) x Q := fun a w hs =>
 wpIn_cond_false (by rw [hs.flat hc, hb]) (hf a w hs)
theorem CI.block {id : Nat} {c : Code} (h : CI P C ro c x (InBlock id Q)) : CI P C ro (.block id c) x Q := fun a w hs =>
 wpIn_block (wpIn_mono (h a w hs) fun e a' w' h => by
  rcases h with ⟨y, h1, h2⟩ | ⟨rfl, h⟩
  case inr => exact .inr ⟨rfl, h⟩
  cases e with
  | exit id' =>
   simp only [InBlock] at h2
   simp only [Exit.inBlock]
   by_cases he : id' = id
   ·subst he; rw [if_pos rfl]; simp at h2; exact .inl ⟨y, h1, h2⟩
   rw [if_neg he]
   have : Nat.beq id' id = false := by
    cases h : Nat.beq id' id with
    | false => rfl
    | true => exact absurd (Nat.eq_of_beq_eq_true h) he
   rw [this] at h2; exact .inl ⟨y, h1, h2⟩
  | _ => exact .inl ⟨y, h1, h2⟩)

def noDf (l : List Oper) : Bool := l.all fun o => match o.op with | .defer _ => false | _ => true
theorem list_in {Q : Exit → Act → World → Prop} (hno : ¬ LetsOut Q) : ∀ (l : List Oper), noDf l = true → ∀ a w, wpList P ops Q l a w → wpListIn (Fence.wide.inRound ro) 0 P ops Q l a w
 | [], _, a, w, h => h
 | o :: l, hd, a, w, h => by
  unfold noDf at hd
  rw [List.all_cons, Bool.and_eq_true] at hd
  obtain ⟨hd1, hd2⟩ := hd
  unfold wpList at h
  unfold wpListIn
  split at h
  ·rename_i hw
   rw [if_pos hw]
   rcases h with h | ⟨_, h⟩
   ·exact Oper.wpIn_mono (fun a w h => list_in hno l hd2 a w h) (oper_in (some ro) (fun c hc => by rw [hc] at hd1; cases hd1) h)
   exact absurd h hno
  rename_i hw
  rw [if_neg hw]
  exact ⟨fun _ _ => trivial, list_in hno l hd2 _ _ h⟩
theorem CI.region {id : Nat} {l : List Oper} (hno : NO Q) (hd : noDf l = true) (h : OD P C l.toArray l x Q) : CI P C ro (.region id l.toArray false) x Q := fun a w hs =>
 wpIn_region_lit (list_in (fun ⟨a, w, hq⟩ => by
  rcases hq with ⟨y, _, hq⟩ | ⟨hq, _⟩
  ·exact hno y hq
  cases hq) l hd a w (h a w hs))

/-! ### The loop -/
def envP : List Tmp → List D → List (Nat × D) → List (Nat × D)
 | t :: ts, d :: ds, env => envP ts ds ((t, d) :: env)
 | _, _, env => env
theorem Sim.params {n : Nat} {S : List Blk} : ∀ {ts : List Tmp} {ds : List D} {vs : List Value} {env : List (Nat × D)} {tm : Array Value} {w : World}, Sim C ⟨n, env, S⟩ { tmps := tm, defers := [] } w → RepL w (live C.X S) ds vs → ds.length = ts.length → Sim C ⟨n, envP ts ds env, S⟩ { tmps := (ts.zip vs).foldl (fun tm (t, v) => tm.setIfInBounds t v) tm, defers := [] } w
 | [], ds, vs, env, tm, w, h, _, hl => by
  have : ds = [] := List.length_eq_zero_iff.1 hl
  subst this; exact h
 | t :: ts, [], _, _, _, _, _, _, hl => by cases hl
 | t :: ts, d :: ds, [], _, _, _, _, hr, _ => by simp [RepL] at hr
 | t :: ts, d :: ds, v :: vs, env, tm, w, h, hr, hl => by
  obtain ⟨h0, h1⟩ := hr.tail
  exact Sim.params (env := (t, d) :: env) (tm := tm.setIfInBounds t v) (h.put h0) h1 (by simpa using hl)

def RoundQ (J Jx : List α → List Blk → Prop) (jc : Code) (xs : List α) : Exit → St → Prop
 | .normal, z => ∃ S', S'.Sublist z.S ∧ J xs S'
 | .ret, z => jc = .ret ∧ ∃ S', S'.Sublist z.S ∧ Jx xs S'
 | .exit i, z => jc = .exit i ∧ ∃ S', S'.Sublist z.S ∧ Jx xs S'
 | _, _ => False
theorem NO.round {J Jx : List α → List Blk → Prop} {jc : Code} {xs : List α} : NO (RoundQ J Jx jc xs) := fun y hq => hq
theorem NO.norm {Φ : St → Prop} : NO (fun e y => e = Exit.normal ∧ Φ y) := fun y hq => by cases hq.1

def BodyN (P : Program) (fn : Func) (post : D → List Blk → Prop) (y : St) : Prop :=
 (y.env.all fun p => noY p.2) = true ∧ (∀ B ∈ y.S, noYs B.cs = true) ∧ ∃ r S', S'.Sublist y.S ∧ Ret P fn y r ∧ noY r = true ∧ post r S'
def BodyR (P : Program) (fn : Func) (post : D → List Blk → Prop) (e : Exit) (y : St) : Prop := e = .ret ∧ BodyN P fn post y
theorem NP.bodyR {fn : Func} {post : D → List Blk → Prop} : NP (BodyR P fn post) := fun ch y t hq => by cases hq.1

def mark (D : Nat) : Deferred := { target := .collected D, args := #[] }
def escOf (P : Program) (fn : Func) (post : D → List Blk → Prop) (X : Nat → Prop) (w0 : World) (S0 : List Nat) : Act → World → Prop := fun a w =>
 ∃ (Dd : Nat) (C' : Ctx) (y : St), C'.X = X ∧ a.defers = [mark Dd] ∧ Fr w0 S0 C'.w0 C'.S0 ∧ w0.heap.size ≤ Dd ∧ Dd < C'.w0.heap.size ∧ Dd ∉ C'.S0 ∧ C'.w0.heap[Dd]? = some (.deferred (some [])) ∧ Sim C' y a w ∧ BodyN P fn post y

theorem Sim.putOdd {a : Act} {w : World} (h : Sim C y a w) {l : Nat} {o1 o2 : Obj} (hl : w.heap[l]? = some o1) (ho : o1.isCells = false) (hlS : l ∉ bks y.S) (hlX : ¬ C.X l) (hn : (y.env.all fun p => noY p.2) = true) (hS : ∀ B ∈ y.S, noYs B.cs = true)
  (htab : TabAt G (w.putObj l o2) (bks y.S) C.X) (esc : Act → World → Prop) : Sim ⟨C.X, w.putObj l o2, bks y.S, G, a.defers, esc⟩ y a (w.putObj l o2) := by
 have hlt : l < w.heap.size := (Array.getElem?_eq_some_iff.1 hl).1
 have hsz : (w.putObj l o2).heap.size = w.heap.size := World.putObj_size
 have H : ∀ b, b ≠ l → (w.putObj l o2).heap[b]? = w.heap[b]? := fun b hb => World.putObj_heap_other hb
 refine ⟨rfl, h.size, fun t ht => (h.env t ht).monoX (Z := fun b => b = l) (noY_look hn t) (fun b _ hb hz => ⟨H b hz, hb⟩) (fun b i hz => by subst hz; exact cell_odd hl ho i) (by rw [hsz]; exact Nat.le_refl _) (fun b _ hb _ => hb),
  h.own.monoX (Z := fun b => b = l) (fun B hB => .inr (List.mem_map.2 ⟨B, hB, rfl⟩)) hS (fun b _ hz => H b hz) (fun b i hz => by subst hz; exact cell_odd hl ho i) (by rw [hsz]; exact Nat.le_refl _) (fun B hB e => hlS (e ▸ List.mem_map.2 ⟨B, hB, rfl⟩)),
  Fr.refl _ _, fun b hb => ?_, htab⟩
 show b < (w.putObj l o2).heap.size ∧ b ∉ bks y.S
 rw [hsz]
 exact ⟨Nat.lt_of_lt_of_le (h.ex b hb).1 h.fr.size, (h.fr.block b (h.ex b hb).1 (h.ex b hb).2).2⟩

theorem VC.bodyR {f : FuncId} {fn : Func} {c : Code} {n : Nat} {args : List D} {S : List Blk} {post : D → List Blk → Prop} (hf : P.funcs[f]? = some fn) (hb : fn.body = some c) (hn : fn.ntmps = n) (hl : args.length ≤ n)
  (h : ∀ X w0 S0, CD P ⟨X, w0, S0, G, [], escOf P fn post X w0 S0⟩ c ⟨n, envOf 0 args, S⟩ (Body P fn post)) : VC P G f args S post := fun X w vs hp => by
 have hvl : vs.length = args.length := hp.args.1
 let C : Ctx := ⟨X, w, bks S, G, [], escOf P fn post X w (bks S)⟩
 have hsim : Sim C ⟨n, envOf 0 args, S⟩ { tmps := vs.toArray ++ Array.replicate (fn.ntmps - vs.toArray.size) undef, defers := [] } w := by
  refine ⟨rfl, by simp [hn]; omega, fun t ht => ?_, hp.own, Fr.refl _ _, hp.ex, hp.tab⟩
  simp only [look_envOf, Nat.zero_le, if_true, Nat.sub_zero]
  by_cases hlt : t < args.length
  ·have e1 : args.getD t .junk = args[t] := by simp [List.getD, hlt]
   have e2 : (vs.toArray ++ Array.replicate (fn.ntmps - vs.toArray.size) undef).getD t undef = vs[t]'(by omega) := by
    rw [Array.getD_eq_getD_getElem?, Array.getElem?_append_left (by simp; omega)]
    simp [show t < vs.length by omega]
   rw [e1, e2]
   exact hp.args.2 t hlt (by omega)
  have e1 : args.getD t .junk = .junk := by simp [List.getD, List.getElem?_eq_none (show args.length ≤ t by omega)]
  rw [e1]; exact .junk _
 refine callsIn_wide.1 (callsIn_of_wp_marks (F := Fence.wide) (n := 0) hf hb trivial (wpIn_wide.2 (wp_mono (h X w (bks S) _ _ hsim) fun e a w' hq => ?_)) rfl)
 rcases hq with ⟨y, h1, h2, r, S', h3, h4, h5⟩ | ⟨rfl, Dd, C', y, hX, hdf, hfr0, hD0, hD1, hD2, hD3, h1, hny, hnS, r, S', h3, h4, hnr, h5⟩
 ·obtain ⟨v, q1, q2⟩ := h4 C a w' h1
  have hsub : (bks S').Sublist (bks y.S) := List.Sublist.map _ h3
  have key : LeavesInM Fence.wide 0 P fn a.tmps (fun e w' => ∃ v r S', e = .returned v ∧ post r S' ∧ Own w' (live X S') S' ∧ Rep w' (live X S') r v ∧ Fr w (bks S) w' (bks S')) a.defers .returning w' := by
   rw [show a.defers = [] from h1.defers]
   exact ⟨v, q2, v, r, S', rfl, h5, h1.own.sub h3, q1.mono fun b _ hn => ⟨rfl, fun hl => hn (hl.imp id fun q => hsub.subset q)⟩,
    ⟨h1.fr.os, h1.fr.tape, h1.fr.output, h1.fr.size, fun b hb' hn => ⟨(h1.fr.block b hb' hn).1, fun q => (h1.fr.block b hb' hn).2 (hsub.subset q)⟩⟩⟩
  rcases h2 with rfl | rfl <;> exact key
 show LeavesInM Fence.wide 0 P fn a.tmps _ a.defers .returning w'
 rw [hdf]
 obtain ⟨f1, f2⟩ := h1.fr.block Dd hD1 hD2
 have hD : w'.heap[Dd]? = some (.deferred (some [])) := f1.trans hD3
 have hXD : ¬ C'.X Dd := fun hx => by rw [hX] at hx; have := (hp.ex Dd hx).1; omega
 have hs2 := h1.putOdd (G := []) (o2 := .deferred none) hD rfl f2 hXD hny hnS (fun g hg => by cases hg) (fun _ _ => False)
 obtain ⟨v, q1, q2⟩ := h4 _ a _ hs2
 have hsub : (bks S').Sublist (bks y.S) := List.Sublist.map _ h3
 refine ⟨by simp, .inl ⟨Dd, _, rfl, run_takeDeferred hD, v, q2, v, r, S', rfl, h5, ?_, ?_, ?_⟩⟩
 ·have := hs2.own.sub h3
  rw [show (⟨C'.X, w'.putObj Dd (.deferred none), bks y.S, [], a.defers, fun _ _ => False⟩ : Ctx).X = X from hX] at this; exact this
 ·rw [← hX]; exact q1.mono fun b _ hn => ⟨rfl, fun hl => hn (hl.imp id fun q => hsub.subset q)⟩
 have k := hfr0.trans h1.fr
 exact ⟨k.os, k.tape, k.output, by rw [World.putObj_size]; exact k.size, fun b hb' hn => by
  obtain ⟨k1, k2⟩ := k.block b hb' hn
  exact ⟨(World.putObj_heap_other (by omega)).trans k1, fun q => k2 (hsub.subset q)⟩⟩

theorem fr_alloc (w : World) (o : Obj) (S : List Nat) (hS : ∀ b ∈ S, b < w.heap.size) : Fr w S (w.alloc o) S := ⟨rfl, rfl, rfl, by rw [World.size_alloc]; omega, fun b hb hn => ⟨Below.heap_alloc w o b hb, hn⟩⟩
theorem TabAt.on {w w' : World} {S S' : List Nat} {X X' : Nat → Prop} (h : TabAt G w S X) (hf : ∀ b, b < w.heap.size → b ∉ S → ¬ X b → w'.heap[b]? = w.heap[b]? ∧ b ∉ S' ∧ ¬ X' b) : TabAt G w' S' X' := fun g hg => by
 obtain ⟨⟨h1, h2, h3⟩, h4⟩ := h g hg
 obtain ⟨f1, f2, f3⟩ := hf g.1 h1 h2 h3
 exact ⟨⟨lt_of_same h1 f1, f2, f3⟩, fun i v hi => (h4 i v hi).on f1⟩

def CDB (P : Program) (C : Ctx) (b rest : Code) (x : St) (Q : Exit → St → Prop) : Prop := ∀ a w, Sim C x a w → b.wp P (Exit.then (rest.wp P (LQ C Q)) (LQ C Q)) a w
def ThenB (P : Program) (C : Ctx) (b rest : Code) (Q : Exit → St → Prop) : Exit → St → Prop
 | .normal, y => CDB P C b rest y Q
 | e, y => Q e y
theorem NP.thenB {b c : Code} (h : NP Q) : NP (ThenB P C b c Q) := fun ch y t hq => h ch y t hq
theorem CDB.wk {b c : Code} (h : Wk x y) (k : CDB P C b c y Q) : CDB P C b c x Q := fun a w hs => k a w (h C a w hs)

theorem CDB.range {X : Nat → Prop} {w0 : World} {S0 : List Nat} {fn : Func} {post : D → List Blk → Prop} {g : Operand} {ps : Array Tmp} {assign body : Code} {gf : FuncId} {caps : List D} {enc : α → List D} {Sa Sp : List α → Prop} {N id : Nat} {rest : Code}
  (hg : opd x g = .clo (.func gf) caps) (eg : ∀ args w, (callFunc gf args).run P w = .ok (.enter gf args) w) (hvi : VI P G gf caps enc Sa Sp N) (hps : ∀ y, (enc y).length = ps.toList.length) (hne : ∀ y, noYs (enc y) = true)
  (jc : Code) (hjc : jc = .ret ∨ jc = .exit id) (J Jx : List α → List Blk → Prop) (hJn : ∀ pre Sc, J pre Sc → ∀ B ∈ Sc, noYs B.cs = true) (hJxn : ∀ pre Sc, Jx pre Sc → ∀ B ∈ Sc, noYs B.cs = true) (h0 : J [] x.S)
  (AQ : List α → α → List Blk → St → Prop) (hAQ : ∀ pre y Sc z, AQ pre y Sc z → (z.env.all fun p => noY p.2) = true ∧ ∀ B ∈ z.S, noYs B.cs = true)
  (hassign : ∀ X' W' S' l pre y Sc, J pre Sc → pre.length < N → CI P ⟨X', W', S', G, [], fun _ _ => False⟩ l assign ⟨x.n, envP ps.toList (enc y) x.env, Sc⟩ (fun e z => e = .normal ∧ AQ pre y Sc z))
  (hbody : ∀ X' W' S' l pre y Sc z, J pre Sc → pre.length < N → AQ pre y Sc z → CI P ⟨X', W', S', G, [], fun _ _ => False⟩ l body z (RoundQ J Jx jc (pre ++ [y])))
  (hrest : ∀ W' S' D Sc, ((∃ xs, Sa xs ∧ J xs Sc) ∨ (jc = .exit id ∧ ∃ pre, Sp pre ∧ Jx pre Sc)) → CD P ⟨X, W', S', G, [mark D], fun _ _ => False⟩ rest ⟨x.n, x.env, Sc⟩ (BodyR P fn post))
  (hret : jc = .ret → ∀ pre Sc, Sp pre → Jx pre Sc → BodyN P fn post ⟨x.n, x.env, Sc⟩) : CDB P ⟨X, w0, S0, G, [], escOf P fn post X w0 S0⟩ (.block id (.rangeFunc g ps assign body)) rest x Q := fun a w hs => by
 have hex : ∀ b, X b → b < w.heap.size ∧ b ∉ bks x.S := fun b hb => ⟨Nat.lt_of_lt_of_le (hs.ex b hb).1 hs.fr.size, (hs.fr.block b (hs.ex b hb).1 (hs.ex b hb).2).2⟩
 have htab : TabAt G w (bks x.S) X := TabAt.on (w := w0) (S := S0) (X := X) hs.tab fun b h1 h2 h3 => ⟨(hs.fr.block b h1 h2).1, (hs.fr.block b h1 h2).2, h3⟩
 have hSlt : ∀ b ∈ bks x.S, b < w.heap.size := fun b hb => by
  obtain ⟨B, hB, rfl⟩ := List.mem_map.1 hb
  exact (hs.own.at_ B hB).1
 -- the function's value
 obtain ⟨lb, hgv, hlb⟩ : ∃ lb : List Value, a.eval g = .func (.func gf) #[] lb.toArray ∧ RepL w (live X x.S) caps lb := by
  have hv := hs.eval g
  rw [hg] at hv
  generalize a.eval g = u at hv
  cases hv with
  | clo _ _ vs hl hr => exact ⟨vs, rfl, hl, hr⟩
 refine (wp_block (wpIn_wide.1 (wpIn_rangeFunc (F := Fence.wide) (n := 0) fun fid _ => ?_)))
 obtain ⟨rec, hrec⟩ : ∃ rec : LoopState → Option Code → Loop, rec = fun st pe => { state := st, pending := pe, fn := fid, tmps := a.tmps, params := ps, assign, body, defers := w.heap.size } := ⟨_, rfl⟩
 obtain ⟨W1, hW1⟩ : ∃ W1, (w.alloc (.deferred (some []))).alloc (.loop (rec .ready none)) = W1 := ⟨_, rfl⟩
 have hL1 : W1.heap[w.heap.size + 1]? = some (.loop (rec .ready none)) := by
  rw [← hW1]; have := World.alloc_heap_new (w.alloc (.deferred (some []))) (.loop (rec .ready none)); rwa [World.size_alloc] at this
 have hK1 : W1.heap[w.heap.size]? = some (.deferred (some [])) := by
  rw [← hW1]; exact (Below.heap_alloc _ _ _ (by simp)).trans (World.alloc_heap_new w _)
 have hF1 : Fr w (bks x.S) W1 (bks x.S) := by
  rw [← hW1]; exact (fr_alloc w _ _ hSlt).trans (fr_alloc _ _ _ fun b hb => by rw [World.size_alloc]; have := hSlt b hb; omega)
 have hB1 : ∀ b, b < w.heap.size → W1.heap[b]? = w.heap[b]? := fun b hb => by
  rw [← hW1, Below.heap_alloc _ _ _ (by rw [World.size_alloc]; omega), Below.heap_alloc _ _ _ hb]
 have hown1 : Own W1 (live X x.S) x.S := ⟨fun B hB => by
  obtain ⟨r0, cur, r1, r2, r3, r4⟩ := hs.own.at_ B hB
  exact ⟨Nat.lt_of_lt_of_le r0 hF1.size, cur, (hB1 _ r0).trans r1, r2, r3, fun i hi => by
   obtain ⟨u, hu, hq⟩ := r4 i hi
   exact ⟨u, hu, hq.mono fun b hb hn => ⟨hB1 b hb, hn⟩⟩⟩, hs.own.apart⟩
 have hos : ∀ b, w.heap.size ≤ b → ¬ live X x.S b := fun b hb hl => by
  rcases hl with hl | hl
  ·have := (hex b hl).1; omega
  have := hSlt b hl; omega
 let Y : Ytr α := ⟨w.heap.size + 1, [(w.heap.size + 1, .loop (rec .ready none)), (w.heap.size, .deferred (some []))], [(w.heap.size + 1, .loop (rec .done (some jc))), (w.heap.size, .deferred (some []))], enc, J, Jx, N⟩
 have hraw1 : rawAt W1 (live X x.S) Y.os := fun z hz => by
  rcases List.mem_cons.1 hz with rfl | hz
  ·exact ⟨(Array.getElem?_eq_some_iff.1 hL1).1, hos _ (by simp), hL1⟩
  rw [List.mem_singleton] at hz; subst hz
  exact ⟨(Array.getElem?_eq_some_iff.1 hK1).1, hos _ (Nat.le_refl _), hK1⟩
 -- the caller's slots, later
 have henv : ∀ (W : World) (Xr : Nat → Prop) (Sc : List Blk), Fr w (bks x.S) W (bks Sc) → (∀ b, Xr b → X b ∨ w.heap.size ≤ b ∨ b ∈ bks x.S) → ∀ t, t < x.n → Rep W (live Xr Sc) (look t x.env) (a.tmps.getD t undef) := fun W Xr Sc hf hx t ht =>
  (hs.env t ht).mono fun b hb hn => by
   have hnS : b ∉ bks x.S := fun h => hn (.inr h)
   obtain ⟨k1, k2⟩ := hf.block b hb hnS
   refine ⟨k1, fun hl => ?_⟩
   rcases hl with hl | hl
   ·rcases hx b hl with h | h | h
    ·exact hn (.inl h)
    ·omega
    exact hnS h
   exact k2 hl
 -- what follows
 have after : ∀ (W4 : World) (Sc : List Blk), Fr w (bks x.S) W4 (bks Sc) → Own W4 (live X Sc) Sc → W4.heap[w.heap.size]? = some (.deferred (some [])) → w.heap.size ∉ bks Sc →
   Sim ⟨X, W4, bks Sc, G, [mark w.heap.size], fun _ _ => False⟩ ⟨x.n, x.env, Sc⟩ { a with defers := [mark w.heap.size] ++ a.defers } W4 ∧ ∀ a' w' y, Sim ⟨X, W4, bks Sc, G, [mark w.heap.size], fun _ _ => False⟩ y a' w' → BodyN P fn post y → escOf P fn post X w0 S0 a' w' := fun W4 Sc hf ho hk hkS => by
  refine ⟨⟨by show [mark w.heap.size] ++ a.defers = _; rw [show a.defers = [] from hs.defers]; rfl, hs.size, fun t ht => henv W4 X Sc hf (fun b hb => .inl hb) t ht, ho, Fr.refl _ _, fun b hb => ⟨Nat.lt_of_lt_of_le (hex b hb).1 hf.size, (hf.block b (hex b hb).1 (hex b hb).2).2⟩, TabAt.on htab fun b h1 h2 h3 => ⟨(hf.block b h1 h2).1, (hf.block b h1 h2).2, h3⟩⟩, fun a' w' y h1 h2 => ?_⟩
  exact ⟨w.heap.size, _, y, rfl, h1.defers, hs.fr.trans hf, hs.fr.size, (Array.getElem?_eq_some_iff.1 hk).1, hkS, hk, h1, h2⟩
 refine ⟨w.heap.size + 1, [mark w.heap.size], W1, { target := .fn (.func gf) lb.toArray, args := #[.func (.yield (w.heap.size + 1)) #[] #[]] }, W1, gf, #[.func (.yield (w.heap.size + 1)) #[] #[]] ++ lb.toArray, W1, ?_, ?_, fun _ _ => trivial, ?_, fun hc => (by cases hc), ?_⟩
 ·rw [← hW1, hrec]; exact run_enterLoop_outer _ _ _ _ _
 ·simp only [resolve, hgv]
  simp [go_sem]
 ·simp [invoke, go_sem, eg]
 refine callsIn_wide.2 ((hvi Y X w W1 (bks x.S) x.S lb rfl rfl hex htab (by simp [Y]) hown1 (hlb.mono fun b hb hn => ⟨hB1 b hb, hn⟩) hF1 hraw1 h0 ?_).mono ?_)
 ·
  intro pre y Sc Xr W vs hJ hN hex2 hX1 hX2 hown hrep hfr hraw
  have hl : W.heap[w.heap.size + 1]? = some (.loop (rec .ready none)) := (hraw _ List.mem_cons_self).2.2
  have hk : W.heap[w.heap.size]? = some (.deferred (some [])) := (hraw _ (List.mem_cons_of_mem _ List.mem_cons_self)).2.2
  have hlL : ¬ live Xr Sc (w.heap.size + 1) := (hraw _ List.mem_cons_self).2.1
  have hkL : ¬ live Xr Sc w.heap.size := (hraw _ (List.mem_cons_of_mem _ List.mem_cons_self)).2.1
  have hkl : w.heap.size < W.heap.size := (Array.getElem?_eq_some_iff.1 hk).1
  have hll : w.heap.size + 1 < W.heap.size := (Array.getElem?_eq_some_iff.1 hl).1
  have hvl : vs.length = ps.toList.length := by rw [hrep.1]; exact hps y
  have hy := run_yield (P := P) (args := vs.toArray) hl (by rw [hrec]; simp at hvl ⊢; exact hvl)
  rw [hrec] at hy
  refine ⟨fid, _, assign, body, hy, roundIn_of_wpIn trivial ?_⟩
  have htab1 : TabAt G W (bks Sc) Xr := TabAt.on htab fun b h1 h2 h3 => ⟨(hfr.block b h1 h2).1, (hfr.block b h1 h2).2, fun hx => by
   rcases hX2 b hx with h | h | h
   ·exact h3 h
   ·omega
   exact h2 h⟩
  have hsim1 : Sim ⟨Xr, W, bks Sc, G, [], fun _ _ => False⟩ ⟨x.n, x.env, Sc⟩ { tmps := a.tmps, defers := [] } W := ⟨rfl, hs.size, fun t ht => henv W Xr Sc hfr hX2 t ht, hown, Fr.refl _ _, hex2, htab1⟩
  have hzip : (ps.zip vs.toArray).foldl (fun t (p, v) => t.setIfInBounds p v) a.tmps = (ps.toList.zip vs).foldl (fun t (p, v) => t.setIfInBounds p v) a.tmps := by
   rw [← Array.foldl_toList]; simp
  refine wpIn_mono (hassign Xr W (bks Sc) _ pre y Sc hJ hN _ _ (by
   have := hsim1.params hrep (hps y)
   rw [← hzip] at this; exact this)) fun e a1 w1 hq => ?_
  rcases hq with ⟨z, hz1, rfl, hz2⟩ | ⟨_, hq⟩
  case inr => exact hq.elim
  obtain ⟨hny, hnS⟩ := hAQ _ _ _ _ hz2
  obtain ⟨f1, f2⟩ := hz1.fr.block (w.heap.size + 1) hll (fun h => hlL (.inr h))
  have hl1 : w1.heap[w.heap.size + 1]? = some (.loop (rec .ready none)) := f1.trans hl
  have hl2 : w1.heap.size = (w1.putObj (w.heap.size + 1) (.loop { rec .ready none with state := .busy })).heap.size := by rw [World.putObj_size]
  have hXl : ¬ Xr (w.heap.size + 1) := fun h => hlL (.inl h)
  have hother : ∀ (u : World) (ob : Obj) b, b ≠ w.heap.size + 1 → (u.putObj (w.heap.size + 1) ob).heap[b]? = u.heap[b]? := fun u ob b hb => World.putObj_heap_other hb
  obtain ⟨W2, hW2⟩ : ∃ W2, w1.putObj (w.heap.size + 1) (.loop { rec .ready none with state := .busy }) = W2 := ⟨_, rfl⟩
  have hsim2 := hz1.putOdd (G := G) (o2 := .loop { rec .ready none with state := .busy }) hl1 rfl f2 hXl hny hnS (TabAt.on htab fun b h1 h2 h3 => by
   obtain ⟨k1, k2⟩ := hfr.block b h1 h2
   obtain ⟨k3, k4⟩ := hz1.fr.block b (Nat.lt_of_lt_of_le h1 hfr.size) k2
   refine ⟨(hother _ _ _ (by omega)).trans (k3.trans k1), k4, fun hx => ?_⟩
   rcases hX2 b hx with h | h | h
   ·exact h3 h
   ·omega
   exact h2 h) (fun _ _ => False)
  rw [hz1.defers, hW2] at hsim2
  have hl2 : W2.heap[w.heap.size + 1]? = some (.loop { rec .ready none with state := .busy }) := by rw [← hW2]; exact World.putObj_heap_same (Array.getElem?_eq_some_iff.1 hl1).1
  have hfin : ∀ (a3 : Act) (W3 : World) (y3 : St) (S' : List Blk) (jump : Option Code), Sim ⟨Xr, W2, bks z.S, G, [], fun _ _ => False⟩ y3 a3 W3 → S'.Sublist y3.S → (∀ B ∈ S', noYs B.cs = true) →
    ∃ W4, (Instr.endRound (w.heap.size + 1) jump).run P W3 = .ok (.bool jump.isNone) W4 ∧ W4.heap[w.heap.size + 1]? = some (.loop (rec (if jump.isNone then .ready else .done) jump)) ∧ W4.heap[w.heap.size]? = some (.deferred (some [])) ∧
     Own W4 (live Xr S') S' ∧ FrX (w.heap.size + 1) W (bks Sc) W4 (bks S') ∧ ¬ live Xr S' (w.heap.size + 1) ∧ ¬ live Xr S' w.heap.size := fun a3 W3 y3 S' jump h3 hsub hSn => by
   have hsb : (bks S').Sublist (bks y3.S) := List.Sublist.map _ hsub
   have hsz2 : W2.heap.size = w1.heap.size := by rw [← hW2, World.putObj_size]
   obtain ⟨g1, g2⟩ := h3.fr.block (w.heap.size + 1) (Array.getElem?_eq_some_iff.1 hl2).1 f2
   have hl3 : W3.heap[w.heap.size + 1]? = some (.loop { rec .ready none with state := .busy }) := g1.trans hl2
   have hlt3 := (Array.getElem?_eq_some_iff.1 hl3).1
   have hrun := run_endRound (P := P) jump hl3
   obtain ⟨k1, k2⟩ := hz1.fr.block w.heap.size hkl (fun h => hkL (.inr h))
   obtain ⟨k3, k4⟩ := h3.fr.block w.heap.size (by rw [hsz2]; exact Nat.lt_of_lt_of_le hkl hz1.fr.size) k2
   have hk2 : W2.heap[w.heap.size]? = some (.deferred (some [])) := by rw [← hW2]; exact (hother _ _ _ (by omega)).trans (k1.trans hk)
   have hlS : w.heap.size + 1 ∉ bks S' := fun h => g2 (hsb.subset h)
   refine ⟨_, hrun, ?_, (hother _ _ _ (by omega)).trans (k3.trans hk2), ?_, ?_, ?_, ?_⟩
   ·rw [hrec]; exact World.putObj_heap_same hlt3
   ·exact (h3.own.sub hsub).monoX (Z := fun b => b = w.heap.size + 1) (fun B hB => .inr (List.mem_map.2 ⟨B, hB, rfl⟩)) hSn (fun b _ hb => hother _ _ _ hb) (fun b i hz => by subst hz; exact cell_odd hl3 rfl i) (by rw [World.putObj_size]; exact Nat.le_refl _) (fun B hB e => hlS (e ▸ List.mem_map.2 ⟨B, hB, rfl⟩))
   ·refine ⟨h3.fr.os.trans ?_, h3.fr.tape.trans ?_, h3.fr.output.trans ?_, ?_, fun b hb hn => ?_⟩
    ·rw [← hW2]; exact hz1.fr.os
    ·rw [← hW2]; exact hz1.fr.tape
    ·rw [← hW2]; exact hz1.fr.output
    ·rw [World.putObj_size]; exact Nat.le_trans hz1.fr.size (by rw [← hsz2]; exact h3.fr.size)
    obtain ⟨m1, m2⟩ := hz1.fr.block b hb hn
    obtain ⟨m3, m4⟩ := h3.fr.block b (by rw [hsz2]; exact Nat.lt_of_lt_of_le hb hz1.fr.size) m2
    refine ⟨fun hne' => (hother _ _ _ hne').trans (m3.trans ?_), fun h => m4 (hsb.subset h)⟩
    rw [← hW2]; exact (hother _ _ _ hne').trans m1
   ·rintro (h | h)
    ·exact hXl h
    exact hlS h
   rintro (h | h)
   ·exact hkL (.inl h)
   exact k4 (hsb.subset h)
  refine ⟨W2, by rw [← hW2]; exact run_beginRound hl1 (by rw [hrec]), wpIn_mono (hbody Xr W2 (bks z.S) _ pre y Sc z hJ hN hz2 _ _ hsim2) fun e a3 W3 hq => ?_⟩
  rcases hq with ⟨y3, h3, hq⟩ | ⟨_, hq⟩
  case inr => exact hq.elim
  cases e with
  | normal =>
   obtain ⟨S', hsub, hj⟩ := hq
   obtain ⟨W4, r1, r2, r3, r4, r5, r6, r7⟩ := hfin a3 W3 y3 S' none h3 hsub (hJn _ _ hj)
   exact ⟨_, W4, r1, true, S', rfl, r4, r5, fun _ => ⟨hj, r2.trans hl.symm⟩, (fun h => by cases h)⟩
  | ret =>
   obtain ⟨hc, S', hsub, hj⟩ := hq
   obtain ⟨W4, r1, r2, r3, r4, r5, r6, r7⟩ := hfin a3 W3 y3 S' (some .ret) h3 hsub (hJxn _ _ hj)
   refine ⟨_, W4, r1, false, S', rfl, r4, r5, (fun h => by cases h), fun _ => ⟨hj, fun z hz => ?_⟩⟩
   rcases List.mem_cons.1 hz with rfl | hz
   ·exact ⟨(Array.getElem?_eq_some_iff.1 r2).1, r6, by rw [hc]; exact r2⟩
   rw [List.mem_singleton] at hz; subst hz
   exact ⟨(Array.getElem?_eq_some_iff.1 r3).1, r7, r3⟩
  | exit i =>
   obtain ⟨hc, S', hsub, hj⟩ := hq
   obtain ⟨W4, r1, r2, r3, r4, r5, r6, r7⟩ := hfin a3 W3 y3 S' (some (.exit i)) h3 hsub (hJxn _ _ hj)
   refine ⟨_, W4, r1, false, S', rfl, r4, r5, (fun h => by cases h), fun _ => ⟨hj, fun z hz => ?_⟩⟩
   rcases List.mem_cons.1 hz with rfl | hz
   ·exact ⟨(Array.getElem?_eq_some_iff.1 r2).1, r6, by rw [hc]; exact r2⟩
   rw [List.mem_singleton] at hz; subst hz
   exact ⟨(Array.getElem?_eq_some_iff.1 r3).1, r7, r3⟩
  | goto t => exact hq.elim
  | panic ch => exact hq.elim
  | outgrown => exact hq.elim
 -- behind the iterator
 have hend : ∀ (W' : World) (Sc : List Blk) (st : LoopState) (pe : Option Code), Own W' (live X Sc) Sc → Fr w (bks x.S) W' (bks Sc) → (∀ B ∈ Sc, noYs B.cs = true) → st ≠ .busy →
   rawAt W' (live X Sc) [(w.heap.size + 1, .loop (rec st pe)), (w.heap.size, .deferred (some []))] →
   ∃ W4, (Instr.endLoop (w.heap.size + 1)).run P W' = .ok pe W4 ∧ Sim ⟨X, W4, bks Sc, G, [mark w.heap.size], fun _ _ => False⟩ ⟨x.n, x.env, Sc⟩ { a with defers := [mark w.heap.size] ++ a.defers } W4 ∧
    ∀ a' w' y, Sim ⟨X, W4, bks Sc, G, [mark w.heap.size], fun _ _ => False⟩ y a' w' → BodyN P fn post y → escOf P fn post X w0 S0 a' w' := fun W' Sc st pe ho hf hSn hst hraw => by
  obtain ⟨r1, r2, r3⟩ := hraw _ List.mem_cons_self
  obtain ⟨k1, k2, k3⟩ := hraw _ (List.mem_cons_of_mem _ List.mem_cons_self)
  have r1 : w.heap.size + 1 < W'.heap.size := r1
  have r3 : W'.heap[w.heap.size + 1]? = some (.loop (rec st pe)) := r3
  have hrun := run_endLoop (P := P) r3 (by rw [hrec]; exact hst)
  have hpe : (rec st pe).pending = pe := by rw [hrec]
  rw [hpe] at hrun
  refine ⟨_, hrun, after _ Sc ⟨hf.os, hf.tape, hf.output, by rw [World.putObj_size]; exact hf.size, fun b hb hn => ⟨(World.putObj_heap_other (by omega)).trans (hf.block b hb hn).1, (hf.block b hb hn).2⟩⟩ ?_ ((World.putObj_heap_other (by omega)).trans k3) (fun h => k2 (.inr h))⟩
  exact ho.monoX (Z := fun b => b = w.heap.size + 1) (fun B hB => .inr (List.mem_map.2 ⟨B, hB, rfl⟩)) hSn (fun b _ hb => World.putObj_heap_other hb) (fun b i hz => by subst hz; exact cell_odd r3 rfl i) (by rw [World.putObj_size]; exact Nat.le_refl _) (fun B hB e => r2 (.inr (by rw [← e]; exact List.mem_map.2 ⟨B, hB, rfl⟩)))
 have hR : ∀ (a' : Act) (W4 : World) (Sc : List Blk), Sim ⟨X, W4, bks Sc, G, [mark w.heap.size], fun _ _ => False⟩ ⟨x.n, x.env, Sc⟩ a' W4 → (∀ a' w' y, Sim ⟨X, W4, bks Sc, G, [mark w.heap.size], fun _ _ => False⟩ y a' w' → BodyN P fn post y → escOf P fn post X w0 S0 a' w') →
   ((∃ xs, Sa xs ∧ J xs Sc) ∨ (jc = .exit id ∧ ∃ pre, Sp pre ∧ Jx pre Sc)) → rest.wp P (LQ ⟨X, w0, S0, G, [], escOf P fn post X w0 S0⟩ Q) a' W4 := fun a' W4 Sc h1 h2 h3 =>
  wp_mono (hrest W4 (bks Sc) w.heap.size Sc h3 _ _ h1) fun e a2 w2 hq => by
   rcases hq with ⟨y, q1, rfl, q2⟩ | ⟨_, hq⟩
   ·exact .inr ⟨rfl, h2 _ _ _ q1 q2⟩
   exact hq.elim
 rintro e W' ⟨v, Sc, rfl, hown, hfr, h⟩
 rcases h with ⟨xs, hsa, hj, hraw⟩ | ⟨pre, hsp, hj, hraw⟩
 ·obtain ⟨W4, q1, q2, q3⟩ := hend W' Sc .ready none hown hfr (hJn _ _ hj) (by simp) hraw
  refine ⟨none, W4, q1, ?_⟩
  exact hR _ W4 Sc q2 q3 (.inl ⟨xs, hsa, hj⟩)
 obtain ⟨W4, q1, q2, q3⟩ := hend W' Sc .done (some jc) hown hfr (hJxn _ _ hj) (by simp) hraw
 refine ⟨some jc, W4, q1, ?_⟩
 rcases hjc with hjc | hjc
 ·rw [hjc]
  refine wpIn_ret ?_
  exact .inr ⟨rfl, q3 _ _ _ q2 (hret hjc pre Sc hsp hj)⟩
 rw [hjc]
 refine wpIn_exit ?_
 have := hR _ W4 Sc q2 q3 (.inr ⟨hjc, pre, hsp, hj⟩)
 simpa [Exit.inBlock, Exit.then] using this

theorem view_box {S : List Blk} {b e size : Nat} {cs cs' : List D} (hB : (⟨b, e, size, cs⟩ : Blk) ∈ S) (hv : Views S cs cs') (hne : isMap e = false := by rfl) : View S (.v (.pointer (some ⟨b, 0, none⟩))) (.iptr cs' 0) := fun X Y w v hY hX ho h => by
 rw [h.v_eq]
 obtain ⟨v1, v2⟩ := hv.spec
 obtain ⟨r0, cur, r1, r2, r3, r4⟩ := ho.at_ _ hB
 rw [ob_cells hne] at r1
 refine .iptr cs' 0 b 0 (fun i => cur.getD i undef) r0 (fun hy => hX _ (hY _ hy) (List.mem_map.2 ⟨_, hB, rfl⟩)) (fun i hi => ?_) (fun i hi => ?_)
 ·obtain ⟨u, hu, _⟩ := r4 i (by show i < cs.length; omega)
  rw [Nat.zero_add, cell_blk r1 hu]
  simp [hu]
 obtain ⟨u, hu, hq⟩ := r4 i (by show i < cs.length; omega)
 simp only [Array.getD_eq_getD_getElem?, hu, Option.getD_some]
 exact v2 i (by omega) hi X Y w u hY hX ho hq
theorem view_clo {S : List Blk} {f : Fn} {ds ds' : List D} (h : Views S ds ds') : View S (.clo f ds) (.clo f ds') := fun X Y w v hY hX ho hr => by
 obtain ⟨h1, h2⟩ := h.spec
 cases hr with
 | clo _ _ vs hl hrr => exact .clo f ds' vs (by omega) fun i q1 q2 => h2 i (by omega) q1 X Y w _ hY hX ho (hrr i (by omega) q2)

/-! ### More steps of a drawn region -/
variable {S1 T : List Nat} {fuel i : Nat} {ld : Array Bool}
theorem AD.giveL {t m cap e sz : Nat} {Sq R : List Blk} {cs : List D} {ad : Option Addr} (ht : V.look t x.env = .v (.slice ad m cap)) (ho : OwnL e sz cs m ad cap Sq) (hl : cs.length = m * sz) (hp : x.S.Perm (Sq ++ R))
  (k : AD P C ops S1 T fuel ld ⟨x.n, (t, .list sz cs m) :: x.env, R⟩ Q) (hne : isMap e = false := by rfl) : AD P C ops S1 T fuel ld x Q :=
 AD.wkSub (Wk.giveL (hne := hne) ht ho hl hp) (fun b hb => by
  obtain ⟨B, hB, rfl⟩ := List.mem_map.1 hb
  exact List.mem_map.2 ⟨B, hp.symm.subset (List.mem_append_right _ hB), rfl⟩) k

def BodyX (P : Program) (fn : Func) (post : D → List Blk → Prop) (pan : List PanicEntry → Prop) (e : Exit) (y : St) : Prop := Body P fn post e y ∨ ∃ ch, e = .panic ch ∧ pan ch
theorem NP.bodyX {fn : Func} {post : D → List Blk → Prop} {pan : List PanicEntry → Prop} : NP (BodyX P fn post pan) := fun ch y t hq => by
 rcases hq with hq | hq
 ·rcases hq.1 with h | h <;> cases h
 exact .inr hq

end Go.Proofs.YtjgekbmahhhokaaDoor.V

namespace Go.Proofs.YtjgekbmahhhokaaDoor.V
open Go.RowKit
set_option linter.unusedVariables false
set_option linter.unusedSimpArgs false

variable {P : Program} {C : Ctx} {G : List (Nat × List Value)} {Q : Exit → St → Prop} {x : St} {ops : Array Oper} {o : Oper} {n fuel t : Nat} {e : List (Nat × D)} {S : List Blk} {S1 T : List Nat} {ld : Array Bool} {d : D} {kd : Rd}

theorem a0_ (i : Nat) (hi : ops[i]? = some o) (h : Still P C.G ⟨n, e, S⟩ o kd d) (K : AD0 P C ops S1 T fuel (ld.setIfInBounds i true) ⟨n, (t, d) :: e, S⟩ Q) (hs : Region.noSelect ops = true := by kernel_rfl) (hf : Region.free .any ops ld i = true := by kernel_rfl) (hr : (Region.ready .any ops ld).contains i = true := by kernel_rfl)
  (hp : NP Q := by repeat (first | exact NP.norm | exact NP.body | exact NP.bodyR | exact NP.bodyX | apply NP.thenB | apply NP.then | apply NP.cut | apply NP.inBlock | apply NP.round)) (hw : Wants ops ⟨n, e, S⟩ o true := by first | exact wants_plain rfl | exact wants_T rfl rfl rfl lk (by first | rfl | assumption)) (hd : o.dst = some t := by exact rfl)
  (hk : Safe ⟨n, e, S⟩ T kd := by first | exact trivial | exact safe_blk (k0 := 0) rfl rfl | exact safe_blk (k0 := 1) rfl rfl | exact safe_blk (k0 := 2) rfl rfl | exact safe_blk (k0 := 3) rfl rfl | exact safe_blk (k0 := 4) rfl rfl | exact safe_blk (k0 := 5) rfl rfl) : AD0 P C ops S1 T (fuel + 1) ld ⟨n, e, S⟩ Q :=
 AD0.take hi hs hf hr hp hw hd h hk K
theorem a1_ (i : Nat) (hi : ops[i]? = some o) (h : Still P C.G ⟨n, e, S⟩ o kd d) (K : AD P C ops S1 T fuel (ld.setIfInBounds i true) ⟨n, (t, d) :: e, S⟩ Q) (hs : Region.noSelect ops = true := by kernel_rfl) (hf : Region.free .any ops ld i = true := by kernel_rfl) (hr : (Region.ready .any ops ld).contains i = true := by kernel_rfl)
  (hp : NP Q := by repeat (first | exact NP.norm | exact NP.body | exact NP.bodyR | exact NP.bodyX | apply NP.thenB | apply NP.then | apply NP.cut | apply NP.inBlock | apply NP.round)) (hw : Wants ops ⟨n, e, S⟩ o true := by first | exact wants_plain rfl | exact wants_T rfl rfl rfl lk (by first | rfl | assumption)) (hd : o.dst = some t := by exact rfl)
  (hk : Safe ⟨n, e, S⟩ T kd := by first | exact trivial | exact safe_blk (k0 := 0) rfl rfl | exact safe_blk (k0 := 1) rfl rfl | exact safe_blk (k0 := 2) rfl rfl | exact safe_blk (k0 := 3) rfl rfl | exact safe_blk (k0 := 4) rfl rfl | exact safe_blk (k0 := 5) rfl rfl) (hni : kd ≠ .imm := by intro h; cases h) : AD P C ops S1 T (fuel + 1) ld ⟨n, e, S⟩ Q :=
 AD.take hi hs hf hr hp hw hd h hk hni K
theorem at_ {i : Nat} (hi : ops[i]? = some o) (h : Still P C.G ⟨n, e, S⟩ o kd d) (K : AD P C ops S1 T fuel (ld.setIfInBounds i true) ⟨n, (t, d) :: e, S⟩ Q) (hw : Wants ops ⟨n, e, S⟩ o true := by first | exact wants_plain rfl | exact wants_T rfl rfl rfl lk (by first | rfl | assumption)) (hd : o.dst = some t := by exact rfl) : AStep P C ops S1 T fuel ld ⟨n, e, S⟩ Q i :=
 AStep.still hi hw hd h K
theorem s0_ (i : Nat) (hi : ops[i]? = some o) (K : AD0 P C ops S1 T fuel (ld.setIfInBounds i true) ⟨n, (t, .v (.tuple #[])) :: e, S⟩ Q) (hw : Wants ops ⟨n, e, S⟩ o false := by first | exact wants_F rfl rfl rfl lk (by first | rfl | assumption) | exact wants_J (b := false) rfl rfl rfl lk) (hs : Region.noSelect ops = true := by kernel_rfl) (hf : Region.free .any ops ld i = true := by kernel_rfl) (hr : (Region.ready .any ops ld).contains i = true := by kernel_rfl)
  (hp : NP Q := by repeat (first | exact NP.norm | exact NP.body | exact NP.bodyR | exact NP.bodyX | apply NP.thenB | apply NP.then | apply NP.cut | apply NP.inBlock | apply NP.round)) (hd : o.dst = some t := by exact rfl) : AD0 P C ops S1 T (fuel + 1) ld ⟨n, e, S⟩ Q :=
 AD0.takeSkip hi hs hf hr hp hw hd K
theorem lq_ {l : List (Nat × D)} (h : look t l = d := by (repeat (first | exact look_hit | (apply look_at; focus (first | rfl | (simp; done) | (congr 2; omega))) | (apply look_miss; focus rfl))); done) : look t l = d := h
end Go.Proofs.YtjgekbmahhhokaaDoor.V

namespace Go.Proofs.YtjgekbmahhhokaaDoor.V
open Go.RowKit
set_option linter.unusedVariables false
set_option linter.unusedSimpArgs false

variable {P : Program} {C : Ctx} {G : List (Nat × List Value)} {Q : Exit → St → Prop} {x : St} {ops : Array Oper} {l : List Oper} {o : Oper} {n : Nat} {e : List (Nat × D)} {S : List Blk} {S1 T : List Nat} {fuel i : Nat} {ld : Array Bool}

theorem kr_ {α : Type} {a b : α} (h : a = b := by kernel_rfl) : a = b := h
theorem le_ {a b : Nat} (h : Nat.ble a b = true := by exact rfl) : a ≤ b := Nat.le_of_ble_eq_true h
theorem wp_ (h : o.guard = none := by exact rfl) : Wants ops x o true := wants_plain h
theorem wt_ (h : Wants ops x o true := by exact wants_T rfl rfl rfl lk (by first | rfl | assumption)) : Wants ops x o true := h
theorem ff_ {sz : Nat} {pd zs ds : List D} (ha : (pd.all fun d => Nat.beq (cellsOf d).length sz) = true := by exact rfl) (hl : Nat.beq zs.length (pd.length * sz) = true := by exact rfl) (hds : pd.flatMap cellsOf = ds := by exact rfl) : fillD (fun i => some (i * sz, sz)) zs (numD 0 pd) = some ds := fill_full ha hl hds
theorem np_ (h : NP Q := by repeat (first | exact NP.body | exact NP.bodyR | exact NP.bodyX | apply NP.thenB | apply NP.then | apply NP.cut | apply NP.inBlock | apply NP.round)) : NP Q := h
theorem su_ {α : Type} {a b : List α} (h : a.Sublist b := by repeat (first | exact List.Sublist.refl _ | apply List.Sublist.cons_cons | apply List.Sublist.cons)) : a.Sublist b := h
theorem sv_ {α : Type} {a b : List α} (h : a.Sublist b := by repeat (first | exact List.Sublist.refl _ | apply List.Sublist.cons)) : a.Sublist b := h
theorem sw_ {α : Type} {a b : List α} (h : a.Sublist b := by repeat (first | exact List.Sublist.refl _ | exact List.nil_sublist _ | apply List.Sublist.cons_cons | apply List.Sublist.cons)) : a.Sublist b := h
theorem bk_ {a b : List Nat} (h : ∀ x ∈ a, x ∈ b := by intro b hb; simp [bks, St.put] at hb ⊢; try first | exact hb | omega | simp [hb] | (rcases hb with hb | hb <;> simp [hb]) | (rcases hb with hb | hb | hb <;> simp [hb])) : ∀ x ∈ a, x ∈ b := h
theorem sl_ {l' : List (Nat × D)} (h : Slots e l' := by repeat (first | exact trivial | refine ⟨lk, ?_⟩)) : Slots e l' := h
theorem sq_ {l' : List (Nat × D)} (h : Slots e l' := by repeat (first | exact trivial | refine ⟨lq_, ?_⟩)) : Slots e l' := h
theorem op_ {ars : List Operand} {ds : List D} (h : Opds x ars ds := by repeat (first | exact trivial | refine ⟨ot, ?_⟩ | refine ⟨opd_const, ?_⟩ | refine ⟨opd_func, ?_⟩)) : Opds x ars ds := h
theorem on_ (l' : List (Nat × D)) (S' : List Blk) (K : Q .normal ⟨n, l', S'⟩) (hS : S = S' := by exact rfl) (h : Slots e l' := by exact sl_) : OD P C ops [] ⟨n, e, S⟩ Q := OD.wk (Wk.as_ rfl hS h) (OD.nil K)
theorem aw_ (l' : List (Nat × D)) (S' : List Blk) (K : AD P C ops S1 T fuel ld ⟨n, l', S'⟩ Q) (hS : S = S' := by exact rfl) (h : Slots e l' := by exact sl_) (hb : bks S' = bks S := by exact rfl) : AD P C ops S1 T fuel ld ⟨n, e, S⟩ Q := AD.wk (Wk.as_ rfl hS h) hb K
theorem oc_ {f t : Nat} {fo : Operand} {ars : Array Operand} {ts : Array TypeId} {args : List D} {r : D} (hcall : ∀ args w, (callFunc f args).run P w = .ok (.enter f args) w) (hc : VP P C.G f args r) (K : OD P C ops l (x.put t r) Q)
  (ho : o.op = .call { callee := .value fo, args := ars, argTypes := ts } := by exact rfl) (hw : Wants ops x o true := by exact wp_) (hd : o.dst = some t := by exact rfl) (hf : fo = .func f := by exact rfl) (ha : Opds x ars.toList args := by exact op_) : OD P C ops (o :: l) x Q := OD.callP hw ho hd hf hcall hc ha K
theorem ac_ {f t : Nat} {fo : Operand} {ars : Array Operand} {ts : Array TypeId} {args : List D} {r : D} (hcall : ∀ args w, (callFunc f args).run P w = .ok (.enter f args) w) (hc : VP P C.G f args r) (K : AD P C ops S1 T fuel (ld.setIfInBounds i true) (x.put t r) Q)
  (hi : ops[i]? = some o := by exact rfl) (ho : o.op = .call { callee := .value fo, args := ars, argTypes := ts } := by exact rfl) (hw : Wants ops x o true := by exact wp_) (hd : o.dst = some t := by exact rfl) (hf : fo = .func f := by exact rfl) (ha : Opds x ars.toList args := by exact op_) : AStep P C ops S1 T fuel ld x Q i := AStep.callP hi hw ho hd hf hcall hc ha K
theorem og_ (k t sz m : Nat) {cap b : Nat} {B : Blk} {cs : List D} (K : OD P C ops l ⟨x.n, (t, .list sz cs m) :: x.env, x.S.eraseIdx k⟩ Q) (hk : x.S[k]? = some B := by exact rfl) (ht : V.look t x.env = .v (.slice (some ⟨b, 0, none⟩) m cap) := by exact lk) (hb : B.b = b := by exact rfl) (hcs : B.cs = cs := by exact rfl) (hl : cs.length = m * sz := by exact rfl) (h1 : m ≤ cap := by exact Nat.le_refl _) (h2 : cap ≤ maxLen := by decide)
  (hne : isMap B.e = false := by exact rfl) : OD P C ops l x Q := OD.give (hne := hne) hk ht hb hcs hl h1 h2 K
theorem ag_ (k t sz m : Nat) {cap b : Nat} {B : Blk} {cs : List D} (K : AD P C ops S1 T fuel ld ⟨x.n, (t, .list sz cs m) :: x.env, x.S.eraseIdx k⟩ Q) (hk : x.S[k]? = some B := by exact rfl) (ht : V.look t x.env = .v (.slice (some ⟨b, 0, none⟩) m cap) := by exact lk) (hb : B.b = b := by exact rfl) (hcs : B.cs = cs := by exact rfl) (hl : cs.length = m * sz := by exact rfl) (h1 : m ≤ cap := by exact Nat.le_refl _) (h2 : cap ≤ maxLen := by decide)
  (hne : isMap B.e = false := by exact rfl) : AD P C ops S1 T fuel ld x Q := AD.give (hne := hne) hk ht hb hcs hl h1 h2 K
theorem pb_ {ps : List (Nat × Operand)} {pl : List (Nat × D)} (h : Parts x ps pl := by repeat (first | exact trivial | refine ⟨rfl, ot, ?_⟩ | refine ⟨rfl, opd_const, ?_⟩ | refine ⟨rfl, opd_func, ?_⟩)) : Parts x ps pl := h
theorem lp_ {c : Code} {ι : Type} {y : St} (I : ι → St → Prop) (μ : ι → Nat) (i : ι) (h0 : I i y) (hw : Wk x y) (round : ∀ i y, I i y → CD P C c y (Round I μ i Q)) : CD P C (.loop c) x Q := CD.wk hw (CD.loop I μ i h0 round)
theorem ob_ {t e' : TypeId} {tt len sz : Nat} {ps : List (Nat × Operand)} {z : Value} (pl : List (Nat × D)) (zvs : List Value) (ds : List D) (hz : ∀ w, (zeroValue e').run P w = .ok z w) (hu : ∀ w, (underlying t).run P w = .ok (.slice e') w) (hs : ∀ w, (sizeOf e').run P w = .ok sz w)
  (k : ∀ b, OD P C ops l ⟨x.n, (tt, .v (.slice (some ⟨b, 0, none⟩) len len)) :: x.env, ⟨b, e', ds.length, ds⟩ :: x.S⟩ Q) (ho : o.op = .buildSlice t len ps.toArray := by exact rfl) (hw : Wants ops x o true := by exact wp_) (hdst : o.dst = some tt := by exact rfl) (hl : Nat.ble 1 (len * sz) = true := by exact rfl) (hl2 : Nat.ble (len * sz) (2 ^ 24) = true := by exact rfl)
  (hzs : (Array.range (len * sz)).map (fun i => z.cells[i % z.cells.size]!) = zvs.toArray := by kernel_rfl) (hps : Parts x ps pl := by exact pb_) (hj : pl.all (fun p => solid p.2) = true := by exact rfl) (hd : fillD (fun i => some (i * sz, sz)) (zvs.map .v) pl = some ds := by exact ff_) (hne : isMap e' = false := by exact rfl) : OD P C ops (o :: l) x Q := OD.bldS (hne := hne) hw ho hdst hz hu hs hl hl2 hzs hps hj hd k
theorem ab_ {t e' : TypeId} {tt len sz : Nat} {ps : List (Nat × Operand)} {z : Value} (pl : List (Nat × D)) (zvs : List Value) (ds : List D) (hz : ∀ w, (zeroValue e').run P w = .ok z w) (hu : ∀ w, (underlying t).run P w = .ok (.slice e') w) (hs : ∀ w, (sizeOf e').run P w = .ok sz w)
  (k : ∀ b, AD P C ops S1 T fuel (ld.setIfInBounds i true) ⟨x.n, (tt, .v (.slice (some ⟨b, 0, none⟩) len len)) :: x.env, ⟨b, e', ds.length, ds⟩ :: x.S⟩ Q) (hi : ops[i]? = some o := by exact rfl) (ho : o.op = .buildSlice t len ps.toArray := by exact rfl) (hw : Wants ops x o true := by exact wp_) (hdst : o.dst = some tt := by exact rfl) (hl : Nat.ble 1 (len * sz) = true := by exact rfl) (hl2 : Nat.ble (len * sz) (2 ^ 24) = true := by exact rfl)
  (hzs : (Array.range (len * sz)).map (fun i => z.cells[i % z.cells.size]!) = zvs.toArray := by kernel_rfl) (hps : Parts x ps pl := by exact pb_) (hj : pl.all (fun p => solid p.2) = true := by exact rfl) (hd : fillD (fun i => some (i * sz, sz)) (zvs.map .v) pl = some ds := by exact ff_) (hne : isMap e' = false := by exact rfl) : AStep P C ops S1 T fuel ld x Q i := AStep.bldS (hne := hne) hi hw ho hdst hz hu hs hl hl2 hzs hps hj hd k
theorem ot_ (k : Nat) (cs' : List D) {t : TypeId} {b o' m : Nat} {B : Blk} {d : D} {y z : Operand} (hn : ∀ w, (sizeOf t).run P w = .ok m w) (K : OD P C ops l ⟨x.n, x.env, x.S.set k { B with cs := cs' }⟩ Q) (ho : o.op = .store t y z := by exact rfl) (hw : Wants ops x o true := by exact wp_) (hdst : o.dst = none := by exact rfl) (hy : opd x y = .v (.pointer (some ⟨b, o', none⟩)) := by exact ot)
  (hk : x.S[k]? = some B := by exact rfl) (hb : B.b = b := by exact rfl) (hz : opd x z = d := by first | exact ot | exact opd_const) (hj : solid d = true := by exact rfl) (h1 : (cellsOf d).all one = true := by exact rfl) (hln : (cellsOf d).length = m := by exact rfl) (hl : Nat.ble (o' + m) B.cs.length = true := by exact rfl) (hcs : setAll B.cs o' (cellsOf d) = cs' := by exact rfl) (hne : isMap B.e = false := by exact rfl) : OD P C ops (o :: l) x Q := OD.store (hne := hne) hw ho hdst hy hk hb hz hj h1 hn hln hl hcs K
theorem as_ (k : Nat) (cs' : List D) {t : TypeId} {b o' m : Nat} {B : Blk} {d : D} {y z : Operand} (hn : ∀ w, (sizeOf t).run P w = .ok m w) (K : AD P C ops S1 T fuel (ld.setIfInBounds i true) ⟨x.n, x.env, x.S.set k { B with cs := cs' }⟩ Q) (hi : ops[i]? = some o := by exact rfl) (ho : o.op = .store t y z := by exact rfl) (hw : Wants ops x o true := by exact wp_) (hdst : o.dst = none := by exact rfl) (hy : opd x y = .v (.pointer (some ⟨b, o', none⟩)) := by exact ot)
  (hk : x.S[k]? = some B := by exact rfl) (hb : B.b = b := by exact rfl) (hz : opd x z = d := by first | exact ot | exact opd_const) (hj : solid d = true := by exact rfl) (h1 : (cellsOf d).all one = true := by exact rfl) (hln : (cellsOf d).length = m := by exact rfl) (hl : Nat.ble (o' + m) B.cs.length = true := by exact rfl) (hcs : setAll B.cs o' (cellsOf d) = cs' := by exact rfl) (hT : ∀ b ∈ T, b ∈ bks (x.S.eraseIdx k) := by exact bk_) (hne : isMap B.e = false := by exact rfl) : AStep P C ops S1 T fuel ld x Q i := AStep.store (hne := hne) hi hw ho hdst hy hk hb hz hj h1 hn hln hl hcs hT K
theorem tk_ (i : Nat) {t : Nat} {k : Rd} {d : D} (hi : ops[i]? = some o) (h : Still P C.G x o k d) (K : AD P C ops S1 T fuel (ld.setIfInBounds i true) (x.put t d) Q) (hs : Region.noSelect ops = true := by kernel_rfl) (hf : Region.free .any ops ld i = true := by kernel_rfl) (hr : (Region.ready .any ops ld).contains i = true := by kernel_rfl) (hp : NP Q := by exact np_)
  (hw : Wants ops x o true := by exact wp_) (hd : o.dst = some t := by exact rfl) (hk : Safe x T k := by exact trivial) (hni : k ≠ .imm := by intro h; cases h) : AD P C ops S1 T (fuel + 1) ld x Q := AD.take hi hs hf hr hp hw hd h hk hni K
theorem tz_ (i : Nat) {t : Nat} {k : Rd} {d : D} (hi : ops[i]? = some o) (h : Still P C.G x o k d) (K : AD0 P C ops S1 T fuel (ld.setIfInBounds i true) (x.put t d) Q) (hs : Region.noSelect ops = true := by kernel_rfl) (hf : Region.free .any ops ld i = true := by kernel_rfl) (hr : (Region.ready .any ops ld).contains i = true := by kernel_rfl) (hp : NP Q := by exact np_)
  (hw : Wants ops x o true := by exact wp_) (hd : o.dst = some t := by exact rfl) (hk : Safe x T k := by exact trivial) : AD0 P C ops S1 T (fuel + 1) ld x Q := AD0.take hi hs hf hr hp hw hd h hk K
theorem om_ {t : Nat} {d : D} {z : Operand} (K : OD P C ops l ⟨n, (t, d) :: e, S⟩ Q) (ho : o.op = .move z ∨ o.op = .assign z := by first | exact .inl rfl | exact .inr rfl) (hz : opd ⟨n, e, S⟩ z = d := by first | exact ot | exact opd_const | exact opd_func | exact opd_glob)
  (hw : Wants ops ⟨n, e, S⟩ o true := by first | exact wants_plain rfl | exact wants_T rfl rfl rfl lk (by first | rfl | assumption)) (hd : o.dst = some t := by exact rfl) : OD P C ops (o :: l) ⟨n, e, S⟩ Q := OD.still hw hd (mv_ ho hz) K
theorem ts_ (i : Nat) {t : Nat} (K : AD P C ops S1 T fuel (ld.setIfInBounds i true) (x.put t (.v (.tuple #[]))) Q) (hi : ops[i]? = some o := by exact rfl) (hs : Region.noSelect ops = true := by kernel_rfl) (hf : Region.free .any ops ld i = true := by kernel_rfl) (hr : (Region.ready .any ops ld).contains i = true := by kernel_rfl) (hp : NP Q := by exact np_)
  (hw : Wants ops x o false := by exact wants_F rfl rfl rfl lk (by first | rfl | assumption)) (hd : o.dst = some t := by exact rfl) : AD P C ops S1 T (fuel + 1) ld x Q := AD.takeSkip hi hs hf hr hp hw hd K
theorem rt_ {fn : Func} {t : Nat} {d : D} {post : D → List Blk → Prop} (hr : fn.results = #[.tmp t]) (K : post d []) (ht : Nat.blt t x.n = true := by exact rfl) (hd : look t x.env = d := by exact lk) : ∃ r S', S'.Sublist x.S ∧ Ret P fn x r ∧ post r S' := ⟨d, [], List.nil_sublist _, ret_one hr (res_tmp (Nat.le_of_ble_eq_true ht) hd), K⟩
end Go.Proofs.YtjgekbmahhhokaaDoor.V

namespace Go.Proofs.YtjgekbmahhhokaaDoor.V
open Go.RowKit
set_option linter.unusedVariables false
set_option linter.unusedSimpArgs false

variable {P : Program} {C : Ctx} {G : List (Nat × List Value)} {Q : Exit → St → Prop} {x : St} {ops : Array Oper} {l : List Oper} {o : Oper} {S1 T : List Nat} {fuel i : Nat} {ld : Array Bool}

theorem still_vidxs {t e : TypeId} {len sz j : Nat} {cs ds : List D} {k : IntKind} {i : Int} {y z : Operand} (ho : o.op = .index t y z) (hy : opd x y = .agg cs) (hz : opd x z = .v (.int k i))
  (hu : ∀ w, (underlying t).run P w = .ok (.array len e) w) (hs : ∀ w, (sizeOf e).run P w = .ok sz w) (ha : ∀ w, (isAgg e).run P w = .ok true w) (hi : i = j) (hj : j < len) (hd : (cs.drop (j * sz)).take sz = ds) : Still P G x o .none (.agg ds) := fun C a w _ h => by
 have hr := h.eval y
 rw [hy] at hr
 generalize hg : a.eval y = u at hr
 subst hi hd
 cases hr with
 | agg _ vs hl hr =>
  refine ⟨.agg ((vs.drop (j * sz)).take sz).toArray, .agg _ _ (by simp [hl]) (fun i h1 h2 => ?_), fun w' _ => ?_⟩
  ·simp only [List.getElem_take, List.getElem_drop]
   exact hr _ _ _
  unfold execOp
  simp [ho, hg, h.flat hz, Instr.index, asIntOf, hu, hj, part, ha, asAgg, hs]

theorem still_nslice {t e : TypeId} {sz : Nat} {y : Operand} {lo hi : Option Operand} (ho : o.op = .slice t y lo hi none) (hy : opd x y = .v (.slice none 0 0)) (hlo : bound x lo 0 0) (hhi : bound x hi 0 0)
  (hu : ∀ w, (underlying t).run P w = .ok (.slice e) w) (hs : ∀ w, (sizeOf e).run P w = .ok sz w) : Still P G x o .none (.v (.slice none 0 0)) := fun C a w _ h =>
 ⟨_, .v _, fun w' _ => by
  have b1 := bound_eval h hlo
  have b2 := bound_eval h hhi
  unfold execOp
  simp [ho, h.flat hy, Instr.sliceAt, Instr.slice, hu, run_sbounds b1 b2 (Nat.zero_le _) (Nat.le_refl _), hs]⟩

theorem AStep.appendG {α : Type} {g : α → List D} {ls new : List α} {s y : Operand} {t e tt sz bytes cap : Nat} {ad : Option Addr} {z : Value} {Sq R : List Blk} (hg : ∀ a, (g a).length = sz) (hg1 : ∀ a, (g a).all one = true) (hi' : ops[i]? = some o) (hw : Wants ops x o true) (ho : o.op = .call { callee := .builtin .append, args := #[s, y], argTypes := #[t, t] }) (hd : o.dst = some tt)
  (ht : P.underlying t = some (.slice e)) (hi : (P.info? e).map (fun i => (i.zero, i.size, i.bytes)) = some (some z, sz, bytes)) (hzs : z.cells.size = sz) (hsz : 0 < sz)
  (hs : opd x s = .v (.slice ad ls.length cap)) (ho' : OwnL e sz (ls.flatMap g) ls.length ad cap Sq) (hp : x.S.Perm (Sq ++ R))
  (hy : opd x y = .list sz (new.flatMap g) new.length) (hm : 0 < new.length) (h63 : ls.length + new.length ≤ maxLen) (hbytes : (ls.length + new.length) * bytes ≤ 140737488355328)
  (K : ∀ b' cap', (ls ++ new).length ≤ cap' → cap' ≤ maxLen → AD P C ops S1 T fuel (ld.setIfInBounds i true) ⟨x.n, (tt, .v (.slice (some ⟨b', 0, none⟩) (ls ++ new).length cap')) :: x.env, ⟨b', e, cap' * sz, (ls ++ new).flatMap g⟩ :: R⟩ Q) (hne : isMap e = false := by rfl)
  (hT : ∀ b ∈ T, b ∈ bks R := by first | exact fun b hb => hb | (intro b hb; simp [bks] at hb ⊢; first | exact hb | exact .inl hb | (rcases hb with hb | hb <;> simp [hb]) | (rcases hb with hb | hb | hb <;> simp [hb]) | (rcases hb with hb | hb | hb | hb <;> simp [hb]) | (rcases hb with hb | hb | hb | hb | hb <;> simp [hb]) | (rcases hb with hb | hb | hb | hb | hb | hb <;> simp [hb]) | (rcases hb with hb | hb | hb | hb | hb | hb | hb <;> simp [hb]) | (rcases hb with hb | hb | hb | hb | hb | hb | hb | hb <;> simp [hb]))) : AStep P C ops S1 T fuel ld x Q i :=
 AStep.appendOwn (hne := hne) hi' hw ho hd ht hi hzs hsz hs ho' hp (fm_len hg ls) hy (fm_one hg1 new) hm h63 hbytes hT fun b' cap' h1 h2 => by
  have := K b' cap' (by rw [List.length_append]; exact h1) h2
  rw [List.length_append, List.flatMap_append] at this
  exact this
end Go.Proofs.YtjgekbmahhhokaaDoor.V

namespace Go.Proofs.YtjgekbmahhhokaaDoor.V
open Go.RowKit
set_option linter.unusedVariables false
set_option linter.unusedSimpArgs false

variable {P : Program} {C : Ctx} {G : List (Nat × List Value)} {Q : Exit → St → Prop} {x : St} {ops : Array Oper} {l : List Oper} {o : Oper}

def VX (P : Program) (G : List (Nat × List Value)) (f : FuncId) (args : List D) (S : List Blk) (post : D → List Blk → Prop) (pan : List PanicEntry → Prop) : Prop :=
 ∀ (X : Nat → Prop) (w : World) (vs : List Value), Pre G X w S args vs → Calls P f vs.toArray w fun e w' =>
  (∃ v r S', e = .returned v ∧ post r S' ∧ Own w' (live X S') S' ∧ Rep w' (live X S') r v ∧ Fr w (bks S) w' (bks S')) ∨ (∃ ch, e = .panicked ch ∧ pan ch ∧ Fr w (bks S) w' [])
theorem VX.mono {f : FuncId} {args : List D} {S : List Blk} {post post' : D → List Blk → Prop} {pan pan' : List PanicEntry → Prop} (h : VX P G f args S post pan) (k : ∀ r S', post r S' → post' r S') (kp : ∀ ch, pan ch → pan' ch) : VX P G f args S post' pan' := fun X w vs hp =>
 (h X w vs hp).mono fun e w' h => by
  rcases h with ⟨v, r, S', h1, h2, h3⟩ | ⟨ch, h1, h2, h3⟩
  ·exact .inl ⟨v, r, S', h1, k r S' h2, h3⟩
  exact .inr ⟨ch, h1, kp ch h2, h3⟩

theorem Sim.callX {a : Act} {w : World} (h : Sim C x a w) (hG : C.G = G) {f : FuncId} {args : List D} {vs : List Value} {Sf R : List Blk} {post : D → List Blk → Prop} {pan : List PanicEntry → Prop} (hc : VX P G f args Sf post pan) (hp : x.S.Perm (Sf ++ R)) (hr : RepL w (live C.X x.S) args vs) :
  Calls P f vs.toArray w fun e w' => (∃ v r S', e = .returned v ∧ post r S' ∧ Rep w' (live C.X (S' ++ R)) r v ∧ Sim C ⟨x.n, x.env, S' ++ R⟩ a w' ∧ Chg (bks Sf) w w' ∧ Fr w (bks x.S) w' (bks (S' ++ R))) ∨ (∃ ch, e = .panicked ch ∧ pan ch ∧ Sim C ⟨x.n, x.env, R⟩ a w') := by
 have hb : (bks x.S).Perm (bks Sf ++ bks R) := by have := hp.map Blk.b; simpa [bks] using this
 have hL := live_perm (X := C.X) hp
 have hnd : (bks Sf ++ bks R).Nodup := hb.nodup_iff.1 h.own.apart
 obtain ⟨n1, n2, n3⟩ := List.nodup_append.1 hnd
 have hRlt : ∀ b, b ∈ bks R → b < w.heap.size := fun b hbm => by
  obtain ⟨B, hB, rfl⟩ := List.mem_map.1 hbm
  exact (h.own.at_ B (hp.symm.subset (List.mem_append_right _ hB))).1
 have hpre : Pre G (fun b => C.X b ∨ b ∈ bks R) w Sf args vs := by
  refine ⟨fun b hx => ?_, fun g hg => ?_, ⟨fun B hB => ?_, n1⟩, ?_⟩
  ·rcases hx with hx | hx
   ·obtain ⟨q1, q2⟩ := h.ex b hx
    exact ⟨Nat.lt_of_lt_of_le q1 h.fr.size, fun hm => (h.fr.block b q1 q2).2 (hb.symm.subset (List.mem_append_left _ hm))⟩
   exact ⟨hRlt b hx, fun hm => n3 b hm b hx rfl⟩
  ·rw [← hG] at hg
   obtain ⟨⟨q1, q2, q3⟩, q4⟩ := h.tab g hg
   have q5 := (h.fr.block g.1 q1 q2).2
   refine ⟨⟨Nat.lt_of_lt_of_le q1 h.fr.size, fun hm => q5 (hb.symm.subset (List.mem_append_left _ hm)), fun hx => ?_⟩, fun i v hi => h.tabAt hg hi⟩
   rcases hx with hx | hx
   ·exact q3 hx
   exact q5 (hb.symm.subset (List.mem_append_right _ hx))
  ·rw [← hL]; exact h.own.at_ B (hp.symm.subset (List.mem_append_left _ hB))
  rw [← hL]; exact hr
 refine (hc _ w vs hpre).mono fun e w' hq => ?_
 rcases hq with ⟨v, r, S', h1, h2, h3, h4, h5⟩ | ⟨ch, h1, h2, h5⟩
 ·refine .inl ⟨v, r, S', h1, h2, ?_, h.back hp h3 h5, ⟨h5.size, fun b hb' hn => (h5.block b hb' hn).1⟩, ?_⟩
  ·have : live C.X (S' ++ R) = live (fun b => C.X b ∨ b ∈ bks R) S' := live_perm (List.Perm.refl _)
   rw [this]; exact h4
  refine ⟨h5.os, h5.tape, h5.output, h5.size, fun b hb' hn => ?_⟩
  have hn1 : b ∉ bks Sf := fun hm => hn (hb.symm.subset (List.mem_append_left _ hm))
  have hn2 : b ∉ bks R := fun hm => hn (hb.symm.subset (List.mem_append_right _ hm))
  obtain ⟨q3, q4⟩ := h5.block b hb' hn1
  refine ⟨q3, fun hm => ?_⟩
  have : bks (S' ++ R) = bks S' ++ bks R := by simp [bks]
  rw [this] at hm
  rcases List.mem_append.1 hm with hm | hm
  ·exact q4 hm
  exact hn2 hm
 exact .inr ⟨ch, h1, h2, h.back (S' := []) hp ⟨fun B hB => (by cases hB), List.nodup_nil⟩ h5⟩

theorem OD.callX {f t : Nat} {fo : Operand} {ars : Array Operand} {ts : Array TypeId} {args : List D} {Sf R : List Blk} {post : D → List Blk → Prop} {pan : List PanicEntry → Prop} (hw : Wants ops x o true) (ho : o.op = .call { callee := .value fo, args := ars, argTypes := ts }) (hd : o.dst = some t)
  (hf : fo = .func f) (hcall : ∀ args w, (callFunc f args).run P w = .ok (.enter f args) w) (hc : VX P C.G f args Sf post pan) (ha : Opds x ars.toList args) (hp : x.S.Perm (Sf ++ R))
  (KP : ∀ ch, pan ch → Q (.panic ch) ⟨x.n, x.env, R⟩) (K : ∀ r S', post r S' → OD P C ops l ⟨x.n, (t, r) :: x.env, S' ++ R⟩ Q) : OD P C ops (o :: l) x Q := fun a w h => by
 have hae : ars.toList.map (opd x) = args := ha.eq
 subst hf hae
 have hr := RepL.opds h ars.toList
 have hrun : (execOp a.eval o).run P w = .ok (.enter f (ars.toList.map a.eval).toArray) w := by
  unfold execOp
  have e : ars.map a.eval = (ars.toList.map a.eval).toArray := by
   rw [← Array.toList_map, Array.toArray_toList]
  simp only [ho, resolve, Act.eval, Deferred.ofValue, Sem.run_bind, Sem.run_pure, Result.andThen_ok, invoke, e]
  simp [hcall]
 unfold wpList
 rw [if_pos (hw _ a w h)]
 refine .inl ?_
 unfold Oper.wp
 rw [hrun, Oper.upon_enter, hd]
 refine (h.callX rfl hc hp hr).mono fun e w' hq => ?_
 rcases hq with ⟨v, r, S', h1, h2, h3, h4, h5, h6⟩ | ⟨ch, h1, h2, h3⟩
 ·subst h1; exact K r S' h2 _ _ (h4.put h3)
 subst h1; exact .inl ⟨_, h3, KP ch h2⟩

variable {S1 T : List Nat} {fuel i : Nat} {ld : Array Bool}
theorem AStep.callX {f t : Nat} {fo : Operand} {ars : Array Operand} {ts : Array TypeId} {args : List D} {Sf R : List Blk} {post : D → List Blk → Prop} {pan : List PanicEntry → Prop} (hi : ops[i]? = some o) (hw : Wants ops x o true) (ho : o.op = .call { callee := .value fo, args := ars, argTypes := ts }) (hd : o.dst = some t)
  (hf : fo = .func f) (hcall : ∀ args w, (callFunc f args).run P w = .ok (.enter f args) w) (hc : VX P C.G f args Sf post pan) (ha : Opds x ars.toList args) (hp : x.S.Perm (Sf ++ R)) (hT : ∀ b ∈ T, b ∈ bks R)
  (KP : ∀ ch, pan ch → Q (.panic ch) ⟨x.n, x.env, R⟩) (K : ∀ r S', post r S' → AD P C ops S1 T fuel (ld.setIfInBounds i true) ⟨x.n, (t, r) :: x.env, S' ++ R⟩ Q) : AStep P C ops S1 T fuel ld x Q i := fun w1 a w h hTS hlt hfr hst => by
 have hae : ars.toList.map (opd x) = args := ha.eq
 subst hf hae
 have hr := RepL.opds h ars.toList
 have hrun : (execOp a.eval o).run P w = .ok (.enter f (ars.toList.map a.eval).toArray) w := by
  unfold execOp
  have e : ars.map a.eval = (ars.toList.map a.eval).toArray := by
   rw [← Array.toList_map, Array.toArray_toList]
  simp only [ho, resolve, Act.eval, Deferred.ofValue, Sem.run_bind, Sem.run_pure, Result.andThen_ok, invoke, e]
  simp [hcall]
 unfold wpOp
 simp only [hi, hw C a w h, if_true]
 refine .inl ?_
 unfold Oper.wp
 rw [hrun, Oper.upon_enter, hd]
 refine (h.callX rfl hc hp hr).mono fun e w' hq => ?_
 rcases hq with ⟨v, r, S', h1, h2, h3, h4, hc', hf⟩ | ⟨ch, h1, h2, h3⟩
 ·subst h1
  have hfr' : Fr w1 S1 w' (bks (S' ++ R)) := ⟨hf.os.trans hfr.os, hf.tape.trans hfr.tape, hf.output.trans hfr.output, Nat.le_trans hfr.size hf.size, fun b hb hn => by
   obtain ⟨q1, q2⟩ := hfr.block b hb hn
   obtain ⟨q3, q4⟩ := hf.block b (Nat.lt_of_lt_of_le hb hfr.size) q2
   exact ⟨q3.trans q1, q4⟩⟩
  have h7 : (bks x.S).Perm (bks Sf ++ bks R) := by have := hp.map Blk.b; simpa [bks] using this
  have h8 := h7.nodup_iff.1 h.own.apart
  have hst' : Stay w1 S1 T w' := ⟨fun b hb hn => (hfr'.block b hb hn).1, fun b hb => by
   have hb1 := Nat.lt_of_lt_of_le (hlt b (hTS b hb)) hfr.size
   exact (hc'.2 b hb1 (fun hm => (List.nodup_append.1 h8).2.2 b hm b (hT b hb) rfl)).trans (hst.2 b hb)⟩
  exact ⟨hst', K r S' h2 w1 _ w' (h4.put h3) hTS hlt hfr' hst'⟩
 subst h1; exact .inl ⟨_, h3, KP ch h2⟩

theorem VX.body {f : FuncId} {fn : Func} {c : Code} {n : Nat} {args : List D} {S : List Blk} {post : D → List Blk → Prop} {pan : List PanicEntry → Prop} (hf : P.funcs[f]? = some fn) (hb : fn.body = some c) (hn : fn.ntmps = n) (hl : args.length ≤ n)
  (h : ∀ X w0 S0, CD P ⟨X, w0, S0, G, [], fun _ _ => False⟩ c ⟨n, envOf 0 args, S⟩ (BodyX P fn post pan)) : VX P G f args S post pan := fun X w vs hp => by
 have hvl : vs.length = args.length := hp.args.1
 let C : Ctx := ⟨X, w, bks S, G, [], fun _ _ => False⟩
 have hsim : Sim C ⟨n, envOf 0 args, S⟩ { tmps := vs.toArray ++ Array.replicate (fn.ntmps - vs.toArray.size) undef, defers := [] } w := by
  refine ⟨rfl, by simp [hn]; omega, fun t ht => ?_, hp.own, Fr.refl _ _, hp.ex, hp.tab⟩
  simp only [look_envOf, Nat.zero_le, if_true, Nat.sub_zero]
  by_cases hlt : t < args.length
  ·have e1 : args.getD t .junk = args[t] := by simp [List.getD, hlt]
   have e2 : (vs.toArray ++ Array.replicate (fn.ntmps - vs.toArray.size) undef).getD t undef = vs[t]'(by omega) := by
    rw [Array.getD_eq_getD_getElem?, Array.getElem?_append_left (by simp; omega)]
    simp [show t < vs.length by omega]
   rw [e1, e2]
   exact hp.args.2 t hlt (by omega)
  have e1 : args.getD t .junk = .junk := by simp [List.getD, List.getElem?_eq_none (show args.length ≤ t by omega)]
  rw [e1]; exact .junk _
 refine calls_of_wp hf hb (wp_mono (h _ _ _ _ _ hsim) fun e a w' h => ?_)
 rcases h with ⟨y, h1, h2⟩ | ⟨_, h⟩
 case inr => exact h.elim
 rcases h2 with ⟨h2, r, S', h3, h4, h5⟩ | ⟨ch, rfl, hpan⟩
 ·obtain ⟨v, q1, q2⟩ := h4 C a w' h1
  have hsub : (bks S').Sublist (bks y.S) := List.Sublist.map _ h3
  have key : a.defers = [] ∧ ∃ v, (results fn a.tmps).run P w' = .ok v w' ∧ ((∃ v' r S', Ending.returned v = .returned v' ∧ post r S' ∧ Own w' (live X S') S' ∧ Rep w' (live X S') r v' ∧ Fr w (bks S) w' (bks S')) ∨ (∃ ch, Ending.returned v = .panicked ch ∧ pan ch ∧ Fr w (bks S) w' [])) :=
   ⟨h1.defers, v, q2, .inl ⟨v, r, S', rfl, h5, h1.own.sub h3, q1.mono fun b _ hn => ⟨rfl, fun hl => hn (hl.imp id fun q => hsub.subset q)⟩,
    ⟨h1.fr.os, h1.fr.tape, h1.fr.output, h1.fr.size, fun b hb' hn => ⟨(h1.fr.block b hb' hn).1, fun q => (h1.fr.block b hb' hn).2 (hsub.subset q)⟩⟩⟩⟩
  rcases h2 with rfl | rfl <;> exact key
 exact ⟨h1.defers, .inr ⟨ch, rfl, hpan, h1.fr.os, h1.fr.tape, h1.fr.output, h1.fr.size, fun b hb' hn => ⟨(h1.fr.block b hb' hn).1, by simp⟩⟩⟩

theorem OD.panic {y : Operand} {v : Value} {T : TypeId} (hw : Wants ops x o true) (ho : o.op = .panic y) (hy : opd x y = .v (.iface T v)) (K : Q (.panic [{ v := .iface T v, recovered := false }]) x) : OD P C ops (o :: l) x Q := fun a w h => by
 unfold wpList
 rw [if_pos (hw _ a w h)]
 refine .inl ?_
 unfold Oper.wp
 have : (execOp a.eval o).run P w = .halt (.panic (.iface T v)) w := by
  unfold execOp
  simp [ho, h.flat hy, Instr.panic]
 rw [this, Oper.upon_panic]
 exact .inl ⟨x, h, K⟩

end Go.Proofs.YtjgekbmahhhokaaDoor.V

namespace Go.Proofs.YtjgekbmahhhokaaDoor.V
open Go.RowKit
set_option linter.unusedVariables false
set_option linter.unusedSimpArgs false

variable {P : Program} {C : Ctx} {G : List (Nat × List Value)} {Q : Exit → St → Prop} {x y : St} {R : Exit → Act → World → Prop}

def KD (P : Program) (C : Ctx) (c : Code) (x : St) (R : Exit → Act → World → Prop) : Prop := ∀ a w, Sim C x a w → c.wp P R a w
theorem KD.of {c : Code} (h : CD P C c x Q) (k : ∀ e a w, LQ C Q e a w → R e a w) : KD P C c x R := fun a w hs => wp_mono (h a w hs) k
theorem KD.seq {c d : Code} (h : KD P C c x (Exit.then (d.wp P R) R)) : KD P C (.seq c d) x R := fun a w hs => wp_seq (h a w hs)
theorem KD.wk {c : Code} (h : Wk x y) (k : KD P C c y R) : KD P C c x R := fun a w hs => k a w (h C a w hs)
theorem Sim.base {a : Act} {w : World} (h : Sim C x a w) : Sim ⟨C.X, w, bks x.S, C.G, a.defers, fun _ _ => False⟩ x a w := by
 have hex : ∀ b, C.X b → b < w.heap.size ∧ b ∉ bks x.S := fun b hb => ⟨Nat.lt_of_lt_of_le (h.ex b hb).1 h.fr.size, (h.fr.block b (h.ex b hb).1 (h.ex b hb).2).2⟩
 exact ⟨rfl, h.size, h.env, h.own, Fr.refl _ _, hex, TabAt.on (w := C.w0) (S := C.S0) (X := C.X) h.tab fun b h1 h2 h3 => ⟨(h.fr.block b h1 h2).1, (h.fr.block b h1 h2).2, h3⟩⟩
theorem KD.base {c : Code} (h : ∀ w0, KD P ⟨C.X, w0, bks x.S, C.G, C.df, fun _ _ => False⟩ c x R) : KD P C c x R := fun a w hs => h w a w (by have := hs.base; rwa [hs.defers] at this)

def VDf (P : Program) (G : List (Nat × List Value)) (g : FuncId) (caps : List D) (S : List Blk) (u u' : FrameMode) (post : List Blk → Prop) : Prop :=
 ∀ (X : Nat → Prop) (w : World) (vs : List Value), Pre G X w S caps vs → CallsDIn Fence.wide 0 P g vs.toArray u w fun e u2 w' => (∃ v, e = .returned v) ∧ u2 = u' ∧ ∃ S', post S' ∧ Own w' (live X S') S' ∧ Fr w (bks S) w' (bks S')

def EndV (post : D → List Blk → Prop) (X : Nat → Prop) (w : World) (S : List Blk) (e : Ending) (w' : World) : Prop := ∃ v r S', e = .returned v ∧ post r S' ∧ Own w' (live X S') S' ∧ Rep w' (live X S') r v ∧ Fr w (bks S) w' (bks S')

theorem VC.closing {f : FuncId} {fn : Func} {c : Code} {n : Nat} {args : List D} {S : List Blk} {post : D → List Blk → Prop} (hf : P.funcs[f]? = some fn) (hb : fn.body = some c) (hn : fn.ntmps = n) (hl : args.length ≤ n)
  (h : ∀ X w, KD P ⟨X, w, bks S, G, [], fun _ _ => False⟩ c ⟨n, envOf 0 args, S⟩ (bodyPostM Fence.wide 0 P fn (EndV post X w S))) : VC P G f args S post := fun X w vs hp => by
 have hvl : vs.length = args.length := hp.args.1
 have hsim : Sim ⟨X, w, bks S, G, [], fun _ _ => False⟩ ⟨n, envOf 0 args, S⟩ { tmps := vs.toArray ++ Array.replicate (fn.ntmps - vs.toArray.size) undef, defers := [] } w := by
  refine ⟨rfl, by simp [hn]; omega, fun t ht => ?_, hp.own, Fr.refl _ _, hp.ex, hp.tab⟩
  simp only [look_envOf, Nat.zero_le, if_true, Nat.sub_zero]
  by_cases hlt : t < args.length
  ·have e1 : args.getD t .junk = args[t] := by simp [List.getD, hlt]
   have e2 : (vs.toArray ++ Array.replicate (fn.ntmps - vs.toArray.size) undef).getD t undef = vs[t]'(by omega) := by
    rw [Array.getD_eq_getD_getElem?, Array.getElem?_append_left (by simp; omega)]
    simp [show t < vs.length by omega]
   rw [e1, e2]
   exact hp.args.2 t hlt (by omega)
  have e1 : args.getD t .junk = .junk := by simp [List.getD, List.getElem?_eq_none (show args.length ≤ t by omega)]
  rw [e1]; exact .junk _
 exact callsIn_wide.1 (callsIn_of_wp_marks (F := Fence.wide) (n := 0) hf hb trivial (wpIn_wide.2 (h X w _ _ hsim)) rfl)

theorem leaves_one {a : Act} {w : World} {fn : Func} {post : D → List Blk → Prop} {w0 : World} {S0 : List Blk} {g : FuncId} {caps : List D} {cv : List Value} {u u' : FrameMode} {Sf Rs : List Blk} {pc : List Blk → Prop}
  (h : Sim C x a w) (hw0 : C.w0 = w0) (hS0 : C.S0 = bks S0) (hG : C.G = G) (hd : a.defers = [{ target := .fn (.func g) cv.toArray, args := #[] }]) (hcv : RepL w (live C.X x.S) caps cv) (hcall : ∀ args w, (callFunc g args).run P w = .ok (.enter g args) w)
  (hp : x.S.Perm (Sf ++ Rs)) (hu : u ≠ .run) (hu' : settle u' = .returning) (hc : VDf P G g caps Sf u u' pc) (hres : ∀ S', pc S' → ∃ r S'', S''.Sublist (S' ++ Rs) ∧ Ret P fn ⟨x.n, x.env, S' ++ Rs⟩ r ∧ post r S'') :
  LeavesInM Fence.wide 0 P fn a.tmps (EndV post C.X w0 S0) a.defers u w := by
 have hb : (bks x.S).Perm (bks Sf ++ bks Rs) := by have := hp.map Blk.b; simpa [bks] using this
 have hL := live_perm (X := C.X) hp
 have hnd : (bks Sf ++ bks Rs).Nodup := hb.nodup_iff.1 h.own.apart
 obtain ⟨n1, n2, n3⟩ := List.nodup_append.1 hnd
 have hRlt : ∀ b, b ∈ bks Rs → b < w.heap.size := fun b hbm => by
  obtain ⟨B, hB, rfl⟩ := List.mem_map.1 hbm
  exact (h.own.at_ B (hp.symm.subset (List.mem_append_right _ hB))).1
 have hpre : Pre G (fun b => C.X b ∨ b ∈ bks Rs) w Sf caps cv := by
  refine ⟨fun b hx => ?_, fun g hg => ?_, ⟨fun B hB => ?_, n1⟩, ?_⟩
  ·rcases hx with hx | hx
   ·obtain ⟨q1, q2⟩ := h.ex b hx
    exact ⟨Nat.lt_of_lt_of_le q1 h.fr.size, fun hm => (h.fr.block b q1 q2).2 (hb.symm.subset (List.mem_append_left _ hm))⟩
   exact ⟨hRlt b hx, fun hm => n3 b hm b hx rfl⟩
  ·rw [← hG] at hg
   obtain ⟨⟨q1, q2, q3⟩, q4⟩ := h.tab g hg
   have q5 := (h.fr.block g.1 q1 q2).2
   refine ⟨⟨Nat.lt_of_lt_of_le q1 h.fr.size, fun hm => q5 (hb.symm.subset (List.mem_append_left _ hm)), fun hx => ?_⟩, fun i v hi => h.tabAt hg hi⟩
   rcases hx with hx | hx
   ·exact q3 hx
   exact q5 (hb.symm.subset (List.mem_append_right _ hx))
  ·rw [← hL]; exact h.own.at_ B (hp.symm.subset (List.mem_append_left _ hB))
  rw [← hL]; exact hcv
 rw [hd]
 refine ⟨hu, .inr ⟨fun hq => (by cases hq), .func g, cv.toArray, g, cv.toArray, rfl, ?_, fun _ _ => trivial, ?_⟩⟩
 ·simp [invoke, go_sem, hcall]
 refine (hc _ w cv hpre).mono fun e u2 w' ⟨⟨v, he⟩, hu2, S', hpc, ho, hf⟩ => ?_
 subst he; subst hu2
 have hs' : Sim C ⟨x.n, x.env, S' ++ Rs⟩ a w' := h.back hp ho hf
 obtain ⟨r, S'', hsub, hret, hpost⟩ := hres S' hpc
 obtain ⟨v', q1, q2⟩ := hret C a w' hs'
 have hsb : (bks S'').Sublist (bks (S' ++ Rs)) := List.Sublist.map _ hsub
 show LeavesInM Fence.wide 0 P fn a.tmps (EndV post C.X w0 S0) [] (settle u2) w'
 rw [hu']
 refine ⟨v', q2, v', r, S'', rfl, hpost, hs'.own.sub hsub, q1.mono fun b _ hn => ⟨rfl, fun hl => hn (hl.imp id fun q => hsb.subset q)⟩, ?_⟩
 have k := hs'.fr
 rw [hw0, hS0] at k
 exact ⟨k.os, k.tape, k.output, k.size, fun b hb' hn => ⟨(k.block b hb' hn).1, fun q => (k.block b hb' hn).2 (hsb.subset q)⟩⟩

end Go.Proofs.YtjgekbmahhhokaaDoor.V

namespace Go.Proofs.YtjgekbmahhhokaaDoor.V
open Go.RowKit
set_option linter.unusedVariables false
set_option linter.unusedSimpArgs false

variable {P : Program} {C : Ctx} {G : List (Nat × List Value)} {Q : Exit → St → Prop} {x : St} {ops : Array Oper} {l : List Oper} {o : Oper}

theorem eff_appendZ0 {s y : Operand} {t tn e tt m sz bytes : Nat} {kq kn : IntKind} {z : Value} (ho : o.op = .call { callee := .builtin .append, args := #[s, y], argTypes := #[t, tn] }) (hd : o.dst = some tt)
  (ht : P.underlying t = some (.slice e)) (htn : P.underlying tn = some (.int kn)) (hi : (P.info? e).map (fun i => (i.zero, i.size, i.bytes)) = some (some z, sz, bytes)) (hzs : z.cells.size = sz) (hsz0 : 0 < sz)
  (hs : opd x s = .v (.slice none 0 0)) (hy : opd x y = .v (.int kq m)) (h0 : 0 < m) (h63 : m ≤ maxLen) (hbytes : m * bytes ≤ 140737488355328) (hne2 : isMap e = false := by rfl) :
  Eff P G x o [] (fun y => ∃ b' cap', m ≤ cap' ∧ cap' ≤ maxLen ∧ y = ⟨x.n, (tt, .v (.slice (some ⟨b', 0, none⟩) m cap')) :: x.env, ⟨b', e, cap' * sz, []⟩ :: x.S⟩) := fun C a w K Q hG h hK => by
 obtain ⟨i, hi1, hi2, hi3, hi4⟩ := info_at hi
 have hrun := Lib.run_append_nil_zeros (P := P) w t tn o.type e i z kq kn ht htn hi1 hi2 m h0 (by rw [hi3]; exact hsz0) (by simp only [maxLen] at h63; omega) (by rw [hi4]; omega)
 have h1 := grownCap_ge w m 0 e
 have h2 := grownCap_le_maxLen w m 0 e h63
 generalize grownCap w m 0 e = cap' at hrun h1 h2
 generalize hROW : Builtin.zeroCells z.cells m ++ Builtin.zeroCells z.cells (cap' - m) = ROW at hrun
 have hzc : ∀ q, (Builtin.zeroCells z.cells q).size = q * sz := fun q => by simp [Builtin.zeroCells, hzs]
 have hsz : ROW.size = cap' * sz := by
  rw [← hROW, Array.size_append, hzc, hzc, ← Nat.add_mul]
  congr 1; omega
 have hrun2 : (execOp a.eval o).run P w = .ok (.value (.slice (some ⟨w.heap.size, 0, none⟩) m cap')) (w.drew.alloc (.cells ROW e)) := by
  unfold execOp
  simp only [ho, resolve, invoke, builtin, Sem.run_bind, Sem.run_pure, Result.andThen_ok, List.map_toArray, List.map_cons, List.map_nil, h.flat hs, h.flat hy, hrun]
 obtain ⟨s1, s2, s3⟩ := h.grown (w' := w.drew.alloc (.cells ROW e)) (t := tt) (m := m) (e := e) (sz := sz) (S := x.S) (cs := []) (row := none) (g := w.heap.size) (cap := cap') (cur := ROW) (hne := hne2) (List.Sublist.refl _) (fun k hk => by cases hk)
  ⟨rfl, rfl, rfl, by show w.heap.size ≤ (w.heap.push _).size; simp, fun k hk _ => getElem?_push_lt (w := w.drew) hk⟩ (.inr rfl) (by show w.heap.size < (w.heap.push _).size; simp) (by show (w.heap.push _)[w.heap.size]? = _; simp) hsz (Nat.zero_le _) (fun j hj => by cases hj)
 unfold Oper.wp
 rw [hrun2, Oper.upon_value, hd]
 exact hK _ _ _ ⟨_, _, h1, h2, rfl⟩ s1 s2 s3

theorem OD.appendZ0 {s y : Operand} {t tn e tt m sz bytes : Nat} {kq kn : IntKind} {z : Value} (hw : Wants ops x o true) (ho : o.op = .call { callee := .builtin .append, args := #[s, y], argTypes := #[t, tn] }) (hd : o.dst = some tt)
  (ht : P.underlying t = some (.slice e)) (htn : P.underlying tn = some (.int kn)) (hi : (P.info? e).map (fun i => (i.zero, i.size, i.bytes)) = some (some z, sz, bytes)) (hzs : z.cells.size = sz) (hsz0 : 0 < sz)
  (hs : opd x s = .v (.slice none 0 0)) (hy : opd x y = .v (.int kq m)) (h0 : 0 < m) (h63 : m ≤ maxLen) (hbytes : m * bytes ≤ 140737488355328)
  (K : ∀ b' cap', m ≤ cap' → cap' ≤ maxLen → OD P C ops l ⟨x.n, (tt, .v (.slice (some ⟨b', 0, none⟩) m cap')) :: x.env, ⟨b', e, cap' * sz, []⟩ :: x.S⟩ Q) (hne2 : isMap e = false := by rfl) : OD P C ops (o :: l) x Q :=
 OD.eff hw (eff_appendZ0 (hne2 := hne2) ho hd ht htn hi hzs hsz0 hs hy h0 h63 hbytes) fun y ⟨b', cap', h1, h2, hy⟩ => hy ▸ K b' cap' h1 h2

end Go.Proofs.YtjgekbmahhhokaaDoor.V

namespace Go.Proofs.YtjgekbmahhhokaaDoor.V
open Go.RowKit
set_option linter.unusedVariables false
set_option linter.unusedSimpArgs false

variable {P : Program} {C : Ctx} {G : List (Nat × List Value)} {Q : Exit → St → Prop} {x : St} {ops : Array Oper} {l : List Oper} {o : Oper} {S1 T : List Nat} {fuel i : Nat} {ld : Array Bool}

theorem still_cap {t e : TypeId} {ad : Option Addr} {len cap : Nat} {y : Operand} {ts : Array TypeId} (ho : o.op = .call { callee := .builtin .cap, args := #[y], argTypes := ts }) (ht : ts = #[t]) (hy : opd x y = .v (.slice ad len cap))
  (hu : ∀ w, (underlying t).run P w = .ok (.slice e) w) : Still P G x o .none (.v (.int .i64 cap)) := fun C a w _ h => ⟨_, .v _, fun w' _ => by
 subst ht
 unfold execOp
 simp [ho, resolve, invoke, builtin, Builtin.cap_, h.flat hy, hu, goInt]⟩

end Go.Proofs.YtjgekbmahhhokaaDoor.V

namespace Go.Proofs.YtjgekbmahhhokaaDoor.V
open Go.RowKit
set_option linter.unusedVariables false
set_option linter.unusedSimpArgs false

variable {P : Program} {G : List (Nat × List Value)} {x : St} {o : Oper} {C : Ctx} {S : List Blk}

theorem still_tloads {t : TypeId} {b n : Nat} {vs : List Value} {y : Operand} (ho : o.op = .load t y) (hy : opd x y = .v (.pointer (some ⟨b, 0, none⟩)))
  (hg : (b, vs) ∈ G) (ha : ∀ w, (isAgg t).run P w = .ok true w) (hn : ∀ w, (sizeOf t).run P w = .ok n w) (hl : vs.length = n) (hpv : vs.all plainV = true := by rfl) : Still P G x o .imm (.agg (vs.map .v)) := fun C a w hG h => by
 subst hG
 refine ⟨.agg vs.toArray, .agg _ vs (by simp) (fun i q1 q2 => ?_), fun w' hw => ?_⟩
 ·simp only [List.getElem_map]; exact .v _
 obtain ⟨⟨q1, q2, q3⟩, _⟩ := h.tab _ hg
 have hb : b < w.heap.size := Nat.lt_of_lt_of_le q1 h.fr.size
 have hnl : ¬ live C.X x.S b := fun hl => hl.elim q3 (h.fr.block b q1 q2).2
 have := run_loadN (P := P) (t := t) (b := b) (o' := 0) (vs := vs) (w := w') ha hn hl (fun j hj => by
  rw [World.cell?_of_block (w := w) (a := ⟨b, 0 + j, none⟩) (hw b hb hnl), Nat.zero_add]
  exact (h.tabAt hg (List.getElem?_eq_getElem hj)).cell (plain_at hpv (List.getElem?_eq_getElem hj)))
 unfold execOp
 simp only [ho, h.flat hy, Sem.run_bind, this, Result.andThen_ok, Sem.run_pure]
theorem ld_tabs {t b n : Nat} {vs : List Value} (hg : (b, vs) ∈ G) (ha : ∀ w, (isAgg t).run P w = .ok true w) (hn : ∀ w, (sizeOf t).run P w = .ok n w) (hl : vs.length = n) (hpv : vs.all plainV = true := by rfl) : R1 P G S (Op.load t) (.v (.pointer (some ⟨b, 0, none⟩))) .imm (.agg (vs.map .v)) := fun x o y ho hy _ => still_tloads ho hy hg ha hn hl hpv

theorem equal_nilnil {t : TypeId} {ms : Array (String × TypeId)} (w : World) (hu : P.underlying t = some (.interface ms)) : (Op.equal t .nilIface .nilIface).run P w = .ok true w := by
 show (Op.equalIn (9999 + 1) t _ _).run P w = _
 rw [Op.equalIn]
 simp [run_underlying hu]
theorem equal_heldnil {t u : TypeId} {p : Value} {ms : Array (String × TypeId)} (w : World) (hu : P.underlying t = some (.interface ms)) : (Op.equal t (.iface u p) .nilIface).run P w = .ok false w := by
 show (Op.equalIn (9999 + 1) t _ _).run P w = _
 rw [Op.equalIn]
 simp [run_underlying hu]
theorem still_errNo {t t' : TypeId} {ms : Array (String × TypeId)} {y : Operand} (ho : o.op = .binOp .neq t y (.const .nilIface) t') (hy : opd x y = .v .nilIface) (hu : P.underlying t = some (.interface ms)) : Still P G x o .none (.v (.bool false)) := fun C a w _ h =>
 ⟨_, .v _, fun w' _ => by
  have e : binOp .neq t .nilIface .nilIface = (do pure (.bool (!(← Op.equal t .nilIface .nilIface)))) := rfl
  have e2 : a.eval (.const .nilIface) = .nilIface := rfl
  unfold execOp
  simp only [ho, h.flat hy, e2, eqGuard, e, Sem.run_bind]
  simp [equal_nilnil w' hu]⟩
theorem still_errYes {t t' te : TypeId} {p : Value} {ms : Array (String × TypeId)} {y : Operand} (ho : o.op = .binOp .neq t y (.const .nilIface) t') (hy : opd x y = .v (.iface te p)) (hu : P.underlying t = some (.interface ms)) : Still P G x o .none (.v (.bool true)) := fun C a w _ h =>
 ⟨_, .v _, fun w' _ => by
  have e : binOp .neq t (.iface te p) .nilIface = (do pure (.bool (!(← Op.equal t (.iface te p) .nilIface)))) := rfl
  have e2 : a.eval (.const .nilIface) = .nilIface := rfl
  unfold execOp
  simp only [ho, h.flat hy, e2, eqGuard, e, Sem.run_bind]
  simp [equal_heldnil w' hu]⟩

end Go.Proofs.YtjgekbmahhhokaaDoor.V

namespace Go.Proofs.YtjgekbmahhhokaaDoor.V
open Go.RowKit
set_option linter.unusedVariables false
set_option linter.unusedSimpArgs false

variable {P : Program} {C : Ctx} {G : List (Nat × List Value)} {Q : Exit → St → Prop} {x : St}

def Gv (d d' : D) : Prop := ∀ w L v, Rep w L d v → Rep w L d' v
theorem gv_rfl {d : D} : Gv d d := fun _ _ _ h => h
theorem gv_nil {sz : Nat} : Gv (.v (.slice none 0 0)) (.list sz [] 0) := fun _ _ _ h => by rw [h.v_eq]; exact .nil sz
def Gvs : List D → List D → Prop
 | [], [] => True
 | d :: r, d' :: r' => Gv d d' ∧ Gvs r r'
 | _, _ => False
theorem Gvs.spec : ∀ {a b : List D}, Gvs a b → b.length = a.length ∧ ∀ i (h : i < a.length) (h' : i < b.length), Gv a[i] b[i]
 | [], [], _ => ⟨rfl, fun i h => by simp at h⟩
 | d :: r, d' :: r', h => by
  obtain ⟨h1, h2⟩ := Gvs.spec h.2
  refine ⟨by simp [h1], fun i q q' => ?_⟩
  cases i with
  | zero => exact h.1
  | succ i => exact h2 i (by simpa using q) (by simpa using q')
 | [], _ :: _, h => h.elim
 | _ :: _, [], h => h.elim
theorem gv_agg {a b : List D} (h : Gvs a b) : Gv (.agg a) (.agg b) := fun w L v hr => by
 obtain ⟨h1, h2⟩ := h.spec
 cases hr with
 | agg _ vs hl hq => exact .agg b vs (by omega) fun i q q' => h2 i (by omega) q _ _ _ (hq i (by omega) q')

theorem Wk.cells {n : Nat} {l : List (Nat × D)} {S S' : List Blk} {k : Nat} {B : Blk} {cs' : List D} (hk : S[k]? = some B) (H : Gvs B.cs cs') (hS : S.set k { B with cs := cs' } = S') : Wk ⟨n, l, S⟩ ⟨n, l, S'⟩ := fun C a w h => by
 subst hS
 obtain ⟨H1, H2⟩ := H.spec
 have hkl := (List.getElem?_eq_some_iff.1 hk).1
 have hkB := (List.getElem?_eq_some_iff.1 hk).2
 have hbks : bks (S.set k { B with cs := cs' }) = bks S := by
  unfold bks
  rw [List.map_set]
  apply List.ext_getElem (by simp)
  intro i q1 q2
  rw [List.getElem_set]
  split
  ·rename_i e; subst e; simp [hkB]
  rfl
 have hlive : live C.X (S.set k { B with cs := cs' }) = live C.X S := by funext b; simp only [live, hbks]
 refine ⟨h.defers, h.size, fun t ht => ?_, ⟨fun B' hB' => ?_, ?_⟩, ?_, h.ex, h.tab⟩
 ·simp only [hlive]; exact h.env t ht
 ·simp only [hlive]
  obtain ⟨p, hp, hpe⟩ := List.mem_iff_getElem.1 hB'
  rw [List.length_set] at hp
  rw [List.getElem_set] at hpe
  by_cases e : k = p
  ·rw [if_pos e] at hpe
   subst hpe
   obtain ⟨r0, cur, r1, r2, r3, r4⟩ := h.own.at_ B (List.mem_of_getElem? hk)
   refine ⟨r0, cur, r1, r2, by show cs'.length ≤ B.size; omega, fun q hq => ?_⟩
   have hq' : q < cs'.length := hq
   obtain ⟨u, hu, hqr⟩ := r4 q (by omega)
   exact ⟨u, hu, H2 q (by omega) hq' _ _ _ hqr⟩
  rw [if_neg e] at hpe
  subst hpe
  exact h.own.at_ _ (List.getElem_mem hp)
 ·simp only [hbks]; exact h.own.apart
 simp only [hbks]; exact h.fr
theorem CD.cells {c : Code} {S' : List Blk} {k : Nat} {B : Blk} {cs' : List D} (hk : x.S[k]? = some B) (H : Gvs B.cs cs') (hS : x.S.set k { B with cs := cs' } = S') (K : CD P C c ⟨x.n, x.env, S'⟩ Q) : CD P C c x Q := CD.wk (Wk.cells (n := x.n) (l := x.env) (S := x.S) hk H hS) K

theorem Wk.giveCell {n i j m cap e sz : Nat} {l : List (Nat × D)} {S Sq R S' : List Blk} {A : Blk} {cs cs' : List D} {ad : Option Addr} (ho : OwnL e sz cs m ad cap Sq) (hl : cs.length = m * sz) (hp : S.Perm (Sq ++ R)) (hj : R[j]? = some A) (hi : A.cs[i]? = some (.v (.slice ad m cap)))
  (hcs' : A.cs.set i (.list sz cs m) = cs') (hS : R.set j { A with cs := cs' } = S') (hne : isMap e = false := by rfl) : Wk ⟨n, l, S⟩ ⟨n, l, S'⟩ := by
 refine (Wk.perm hp).trans ?_
 rcases ho with ⟨rfl, rfl, rfl, rfl, rfl⟩ | ⟨b, rfl, h1, h2, rfl⟩
 ·refine Wk.cells (B := A) hj ?_ hS
  subst hcs'
  have key : ∀ (dd : List D) (i : Nat), dd[i]? = some (.v (.slice none 0 0)) → Gvs dd (dd.set i (.list sz [] 0)) := by
   have hrf : ∀ r : List D, Gvs r r := by
    intro r; induction r with
    | nil => trivial
    | cons d r ih => exact ⟨gv_rfl, ih⟩
   intro dd
   induction dd with
   | nil => intro i h; simp at h
   | cons d r ih =>
    intro i h
    cases i with
    | zero => simp only [List.getElem?_cons_zero, Option.some.injEq] at h; subst h; exact ⟨gv_nil, hrf r⟩
    | succ i => simp only [List.getElem?_cons_succ] at h; exact ⟨gv_rfl, ih i h⟩
  exact key _ _ hi
 exact Wk.giveIn (hne := hne) (k := 0) rfl hj hi rfl hl h1 h2 hcs' hS
theorem CD.giveCell {c : Code} {i j m cap e sz : Nat} {Sq R S' : List Blk} {A : Blk} {cs cs' : List D} {ad : Option Addr} (ho : OwnL e sz cs m ad cap Sq) (hl : cs.length = m * sz) (hp : x.S.Perm (Sq ++ R)) (hj : R[j]? = some A) (hi : A.cs[i]? = some (.v (.slice ad m cap)))
  (hcs' : A.cs.set i (.list sz cs m) = cs') (hS : R.set j { A with cs := cs' } = S') (K : CD P C c ⟨x.n, x.env, S'⟩ Q) (hne : isMap e = false := by rfl) : CD P C c x Q := CD.wk (Wk.giveCell (hne := hne) (n := x.n) (l := x.env) (S := x.S) ho hl hp hj hi hcs' hS) K

end Go.Proofs.YtjgekbmahhhokaaDoor.V

namespace Go.Proofs.YtjgekbmahhhokaaDoor.V
open Go.RowKit
set_option linter.unusedVariables false
set_option linter.unusedSimpArgs false

variable {P : Program} {C : Ctx} {G : List (Nat × List Value)} {Q : Exit → St → Prop} {x y : St} {R : Exit → Act → World → Prop}

theorem flat_vals {w : World} {L : Nat → Prop} {vs us : List Value} (hl : us.length = (vs.map D.v).length) (h : ∀ i (h : i < (vs.map D.v).length) (h' : i < us.length), Rep w L (vs.map D.v)[i] us[i]) : us = vs := by
 rw [List.length_map] at hl
 apply List.ext_getElem hl
 intro i h1 h2
 have := h i (by simpa using h2) h1
 simp only [List.getElem_map] at this
 exact this.v_eq
theorem KD.seqC {c d : Code} {Q1 : Exit → St → Prop} (hesc : ∀ a w, ¬ C.esc a w) (h : CD P C c x Q1) (hn : ∀ y, Q1 .normal y → KD P C d y R) (ho : ∀ e a w y, e ≠ .normal → Sim C y a w → Q1 e y → R e a w) : KD P C (.seq c d) x R := KD.seq (KD.of h fun e a w hq => by
 rcases hq with ⟨y, hs, hq⟩ | ⟨_, he⟩
 ·cases e with
  | normal => exact hn y hq a w hs
  | exit _ => exact ho _ a w y (by intro h; cases h) hs hq
  | goto _ => exact ho _ a w y (by intro h; cases h) hs hq
  | ret => exact ho _ a w y (by intro h; cases h) hs hq
  | panic _ => exact ho _ a w y (by intro h; cases h) hs hq
  | outgrown => exact ho _ a w y (by intro h; cases h) hs hq
 exact (hesc _ _ he).elim)

theorem leave_ret {X : Nat → Prop} {w0 : World} {S : List Blk} {esc : Act → World → Prop} {a : Act} {w : World} {fn : Func} {post : D → List Blk → Prop} (h : Sim ⟨X, w0, bks S, G, [], esc⟩ y a w) (hb : ∃ r S', S'.Sublist y.S ∧ Ret P fn y r ∧ post r S') :
  LeavesInM Fence.wide 0 P fn a.tmps (EndV post X w0 S) a.defers .returning w := by
 rw [h.defers]
 obtain ⟨r, S', hsub, hret, hpost⟩ := hb
 obtain ⟨v, q1, q2⟩ := hret _ a w h
 have hsb : (bks S').Sublist (bks y.S) := List.Sublist.map _ hsub
 exact ⟨v, q2, v, r, S', rfl, hpost, h.own.sub hsub, q1.mono fun b _ hn => ⟨rfl, fun hl => hn (hl.imp id fun q => hsb.subset q)⟩,
  ⟨h.fr.os, h.fr.tape, h.fr.output, h.fr.size, fun b hb' hn => ⟨(h.fr.block b hb' hn).1, fun q => (h.fr.block b hb' hn).2 (hsb.subset q)⟩⟩⟩

def defd (g : FuncId) (vs : List Value) : Deferred := { target := .fn (.func g) vs.toArray, args := #[] }
theorem KD.defer {id t : Nat} {g : FuncId} {o1 o2 : Oper} {vs : List Value} {rest : Code} {k : Rd} {ts : Array TypeId} (hg1 : o1.guard = none) (hg2 : o2.guard = none) (h1 : Still P C.G x o1 k (.clo (.func g) (vs.map .v))) (hd1 : o1.dst = some t) (ho2 : o2.op = .defer { callee := .value (.tmp t), args := #[], argTypes := ts }) (hd2 : o2.dst = none) (ht : Nat.blt t x.n = true)
  (K : KD P ⟨C.X, C.w0, C.S0, C.G, defd g vs :: C.df, C.esc⟩ rest ⟨x.n, (t, .clo (.func g) (vs.map .v)) :: x.env, x.S⟩ R) : KD P C (.seq (.region id [o1, o2].toArray false) rest) x R := KD.seq fun a w hs => wp_region_lit (by
 unfold wpList
 rw [if_pos (wants_plain hg1 C a w hs)]
 refine .inl (h1.eff hd1 _ _ _ _ _ rfl hs fun y a' w' hy hs' _ _ => ?_)
 subst hy
 unfold wpList
 rw [if_pos (wants_plain hg2 C a' w' hs')]
 refine .inl ?_
 have hev : a'.eval (.tmp t) = .func (.func g) #[] vs.toArray := by
  have := hs'.eval (.tmp t)
  have ho : opd (x.put t (.clo (.func g) (vs.map .v))) (.tmp t) = .clo (.func g) (vs.map .v) := by simp [opd, St.put, ht, look_cons]
  rw [ho] at this
  generalize a'.eval (.tmp t) = u at this
  cases this with
  | clo _ _ us hl hr => rw [flat_vals hl hr]
 have hrun : (execOp a'.eval o2).run P w' = .ok (.defer (defd g vs)) w' := by
  unfold execOp
  simp only [ho2, resolve, hev, Deferred.ofValue, Sem.run_bind, Sem.run_pure, Result.andThen_ok]
  simp [defd]
 unfold Oper.wp
 rw [hrun, Oper.upon_defer, hd2]
 exact K _ w' ⟨congrArg (defd g vs :: ·) hs'.defers, hs'.size, hs'.env, hs'.own, hs'.fr, hs'.ex, hs'.tab⟩)

theorem gv_tup {a b : List D} (h : Gvs a b) : Gv (.tup a) (.tup b) := fun w L v hr => by
 obtain ⟨h1, h2⟩ := h.spec
 cases hr with
 | tup _ vs hl hq => exact .tup b vs (by omega) fun i q q' => h2 i (by omega) q _ _ _ (hq i (by omega) q')
theorem Ret.gv {fn : Func} {r r' : D} (h : Ret P fn y r) (g : Gv r r') : Ret P fn y r' := fun C a w hs => let ⟨v, h1, h2⟩ := h C a w hs; ⟨v, g _ _ _ h1, h2⟩
theorem repL_flat {w : World} {L : Nat → Prop} (vs : List Value) : RepL w L (vs.map D.v) vs := ⟨by simp, fun i h h' => by rw [List.getElem_map]; exact .v _⟩
theorem still_tassert {G : List (Nat × List Value)} {o : Oper} {xt te : TypeId} {y : Operand} {vs : List Value} {fs : Array Field} (ho : o.op = .typeAssert y xt te false) (hy : opd x y = .v (.iface te (.agg vs.toArray))) (hu : P.underlying te = some (.struct fs)) : Still P G x o .none (.agg (vs.map .v)) := fun C a w _ h =>
 ⟨_, .agg _ vs (by simp) (fun i h h' => by rw [List.getElem_map]; exact .v _), fun w' _ => by
  unfold execOp
  simp [ho, h.flat hy, Instr.typeAssert, run_underlying hu]⟩
theorem wants_none {ops : Array Oper} {o : Oper} (h : o.guard = none) (a : Act) : Region.wanted o (yielded ops a.tmps) = true := by simp [Region.wanted, h]
theorem VDf.recover {g : FuncId} {fn : Func} {n id t0 t1 : Nat} {o0 o1 : Oper} {rest : Code} {caps : List D} {S : List Blk} {pc : List Blk → Prop} {u u' : FrameMode} {v : Value} {ts : Array TypeId} (hf : P.funcs[g]? = some fn) (hb : fn.body = some (.seq (.region id #[o0, o1] false) rest)) (hn : fn.ntmps = n) (hr : fn.results = #[]) (hl : caps.length ≤ n)
  (hg0 : o0.guard = none) (hg1 : o1.guard = none) (ho0 : o0.op = .call { callee := .builtin .recover, args := #[], argTypes := ts }) (hd0 : o0.dst = some t0) (ho1 : o1.op = .assign (.tmp t0)) (hd1 : o1.dst = some t1) (ht0 : t0 < n)
  (hrec : ∀ c0 cs, c0.mode = u → (recoverD (c0 :: cs) = some (v, { c0 with mode := u' } :: cs)) ∨ (recoverD (c0 :: cs) = none ∧ v = .nilIface ∧ u' = u))
  (K : ∀ X w0, CD P ⟨X, w0, bks S, G, [], fun _ _ => False⟩ rest ⟨n, (t1, .v v) :: (t0, .v v) :: envOf 0 caps, S⟩ (fun e y => e = .normal ∧ pc y.S)) : VDf P G g caps S u u' pc := fun X w vs hp => by
 have hvl : vs.length = caps.length := hp.args.1
 have hsim : Sim ⟨X, w, bks S, G, [], fun _ _ => False⟩ ⟨n, envOf 0 caps, S⟩ { tmps := vs.toArray ++ Array.replicate (fn.ntmps - vs.toArray.size) undef, defers := [] } w := by
  refine ⟨rfl, by simp [hn]; omega, fun t ht => ?_, hp.own, Fr.refl _ _, hp.ex, hp.tab⟩
  simp only [look_envOf, Nat.zero_le, if_true, Nat.sub_zero]
  by_cases hlt : t < caps.length
  ·have e1 : caps.getD t .junk = caps[t] := by simp [List.getD, hlt]
   have e2 : (vs.toArray ++ Array.replicate (fn.ntmps - vs.toArray.size) undef).getD t undef = vs[t]'(by omega) := by
    rw [Array.getD_eq_getD_getElem?, Array.getElem?_append_left (by simp; omega)]
    simp [show t < vs.length by omega]
   rw [e1, e2]
   exact hp.args.2 t hlt (by omega)
  have e1 : caps.getD t .junk = .junk := by simp [List.getD, List.getElem?_eq_none (show caps.length ≤ t by omega)]
  rw [e1]; exact .junk _
 generalize hA : ({ tmps := vs.toArray ++ Array.replicate (fn.ntmps - vs.toArray.size) undef, defers := [] } : Act) = A at hsim
 refine callsDIn_of_wpSIn hf hb trivial fun c0 cs hu => wpSIn_seq (wpSIn_region ?_)
 rw [hA]
 have hrun0 : (execOp A.eval o0).run P w = .ok .recover w := by
  unfold execOp
  simp [ho0, resolve, invoke, builtin]
 have hs2 : Sim ⟨X, w, bks S, G, [], fun _ _ => False⟩ ⟨n, (t1, .v v) :: (t0, .v v) :: envOf 0 caps, S⟩ ((A.put (some t0) v).put (some t1) v) w := (hsim.put (t := t0) (Rep.v v)).put (t := t1) (Rep.v v)
 have hev : (A.put (some t0) v).eval (.tmp t0) = v := by
  have := (hsim.put (t := t0) (Rep.v v)).flat (o := .tmp t0) (u := v) (by
   have : Nat.blt t0 n = true := by simp [Nat.blt]; omega
   simp [opd, St.put, look_cons, this])
  exact this
 have hrun1 : (execOp (A.put (some t0) v).eval o1).run P w = .ok (.value v) w := by
  unfold execOp
  simp [ho1, hev]
 have key : ∀ cs', cs' = { c0 with mode := u' } :: cs → wpOpsSIn Fence.wide 0 P #[o0, o1] (Exit.thenS (rest.wpSIn Fence.wide 0 P (bodyPostS P fn c0 cs fun e u2 w' => (∃ v, e = .returned v) ∧ u2 = u' ∧ ∃ S', pc S' ∧ Own w' (live X S') S' ∧ Fr w (bks S) w' (bks S'))) (bodyPostS P fn c0 cs fun e u2 w' => (∃ v, e = .returned v) ∧ u2 = u' ∧ ∃ S', pc S' ∧ Own w' (live X S') S' ∧ Fr w (bks S) w' (bks S'))) [1] (A.put (some t0) v) cs' w := fun cs' hcs => by
  have e1 : (#[o0, o1] : Array Oper)[1]? = some o1 := rfl
  simp only [wpOpsSIn, e1]
  refine ⟨fun _ _ => trivial, ?_⟩
  rw [if_pos (wants_none hg1 _), hrun1, hd1]
  refine wpSIn_of_wpIn rfl (wpIn_wide.2 (wp_mono (K X w _ _ hs2) fun e a3 w3 hq => ?_))
  rcases hq with ⟨y, hy, rfl, hpc⟩ | ⟨_, he⟩
  ·subst hcs
   refine ⟨hy.defers, u', rfl, .tuple #[], by unfold results; simp [hr], ⟨_, rfl⟩, rfl, y.S, hpc, hy.own, hy.fr⟩
  exact he.elim
 have e0 : (#[o0, o1] : Array Oper)[0]? = some o0 := rfl
 show wpOpsSIn Fence.wide 0 P #[o0, o1] _ [0, 1] A (c0 :: cs) w
 rw [wpOpsSIn]
 simp only [e0]
 refine ⟨fun _ _ => trivial, ?_⟩
 rw [if_pos (wants_none hg0 _), hrun0, hd0]
 rcases hrec c0 cs hu with h | ⟨h, rfl, rfl⟩
 ·rw [h]; exact key _ rfl
 rw [h]; exact key _ (by subst hu; rfl)

end Go.Proofs.YtjgekbmahhhokaaDoor.V

namespace Go.Proofs.YtjgekbmahhhokaaDoor.V
open Go.RowKit
set_option linter.unusedVariables false
set_option linter.unusedSimpArgs false

variable {P : Program} {C : Ctx} {G : List (Nat × List Value)} {Q : Exit → St → Prop} {x : St} {ops : Array Oper} {l : List Oper} {o : Oper}

theorem still_slice3 {t e : TypeId} {b len cap sz n : Nat} {k2 k3 : IntKind} {y hi mx : Operand} (ho : o.op = .slice t y none (some hi) (some mx)) (hy : opd x y = .v (.slice (some ⟨b, 0, none⟩) len cap)) (hhi : opd x hi = .v (.int k2 n)) (hmx : opd x mx = .v (.int k3 n))
  (hu : ∀ w, (underlying t).run P w = .ok (.slice e) w) (hs : ∀ w, (sizeOf e).run P w = .ok sz w) (h3 : n ≤ cap) : Still P G x o .none (.v (.slice (some ⟨b, 0, none⟩) n n)) := fun C a w _ h =>
 ⟨_, .v _, fun w' _ => by
  have b3 : ∀ w, (Instr.sliceBounds true len cap none (some (.int k2 n)) (some (.int k3 n))).run P w = .ok (0, n, n) w := fun w => by
   unfold Instr.sliceBounds
   simp [run_sbound, h3]
  unfold execOp
  simp only [ho, h.flat hy, h.flat hhi, h.flat hmx, Instr.sliceAt, Instr.slice, hu, Sem.run_bind, Result.andThen_ok, Option.map_some, Option.map_none, b3, hs, Sem.run_pure]
  by_cases hc : n = 0
  ·rw [if_pos hc]; simp
  rw [if_neg hc]; simp [Addr.add]⟩
theorem bounds3 {k2 k3 : IntKind} (len cap n : Nat) (h3 : n ≤ cap) (w : World) : (Instr.sliceBounds true len cap none (some (.int k2 n)) (some (.int k3 n))).run P w = .ok (0, n, n) w := by
 unfold Instr.sliceBounds
 simp [run_sbound, h3]
theorem still_slice3n {t e : TypeId} {sz n : Nat} {k2 k3 : IntKind} {y hi mx : Operand} (ho : o.op = .slice t y none (some hi) (some mx)) (hy : opd x y = .v (.slice none 0 0)) (hhi : opd x hi = .v (.int k2 n)) (hmx : opd x mx = .v (.int k3 n)) (hn : n = 0)
  (hu : ∀ w, (underlying t).run P w = .ok (.slice e) w) (hs : ∀ w, (sizeOf e).run P w = .ok sz w) : Still P G x o .none (.v (.slice none 0 0)) := fun C a w _ h =>
 ⟨_, .v _, fun w' _ => by
  have b3 := fun w => bounds3 (P := P) (k2 := k2) (k3 := k3) 0 0 n (by omega) w
  unfold execOp
  simp only [ho, h.flat hy, h.flat hhi, h.flat hmx, Instr.sliceAt, Instr.slice, hu, Sem.run_bind, Result.andThen_ok, Option.map_some, Option.map_none, b3, hs, Sem.run_pure]
  subst hn; simp⟩
theorem eff_appendNew {s y : Operand} {t e tt sz bytes n m b k : Nat} {z : Value} {B : Blk} {cs : List D} (ho : o.op = .call { callee := .builtin .append, args := #[s, y], argTypes := #[t, t] }) (hd : o.dst = some tt)
  (ht : P.underlying t = some (.slice e)) (hi : (P.info? e).map (fun i => (i.zero, i.size, i.bytes)) = some (some z, sz, bytes)) (hzs : z.cells.size = sz) (hsz : 0 < sz)
  (hs : opd x s = .v (.slice (some ⟨b, 0, none⟩) n n)) (hk : x.S[k]? = some B) (hb : B.b = b) (hl : n * sz ≤ B.cs.length)
  (hy : opd x y = .list sz cs m) (hone : ∀ d ∈ cs, one d = true) (hone0 : ∀ d ∈ B.cs.take (n * sz), one d = true) (hm : 0 < m) (h63 : n + m ≤ maxLen) (hbytes : (n + m) * bytes ≤ 140737488355328) (hne : isMap B.e = false := by rfl) (hne2 : isMap e = false := by rfl) :
  Eff P G x o [] (fun y => ∃ b' cap', n + m ≤ cap' ∧ cap' ≤ maxLen ∧ y = ⟨x.n, (tt, .v (.slice (some ⟨b', 0, none⟩) (n + m) cap')) :: x.env, ⟨b', e, cap' * sz, B.cs.take (n * sz) ++ cs⟩ :: x.S⟩) := fun C a w K Q hG h hK => by
 subst hb
 obtain ⟨i, hi1, hi2, hi3, hi4⟩ := info_at hi
 obtain ⟨r0, cur, r1, r2, r3, r4⟩ := h.blk hk
 rw [ob_cells hne] at r1
 have hr := h.eval y
 rw [hy] at hr
 generalize hg : a.eval y = u at hr
 cases hr with
 | void => omega
 | list _ _ _ b' o' cap' f hl' q1 q2 hb' hL hc hrr =>
  have hfit : Builtin.nextslicecap (n + m) n * bytes ≤ 281474976710656 := by
   have q1 := nextslicecap_le (need := n + m) (old := n) (by omega)
   have q2 := Nat.mul_le_mul_right bytes q1
   rw [Nat.mul_assoc] at q2
   omega
  have hrun := Go.run_append_grow (P := P) (w := w) t o.type e i z ht hi1 hi2 ⟨B.b, 0, none⟩ n n (cur.toList.take (n * sz)) (by rw [hi3]; simp; omega) (fun j v hv => by
    have hj := (List.getElem?_eq_some_iff.1 hv).1
    rw [List.length_take] at hj
    rw [List.getElem?_take_of_lt (by omega), Array.getElem?_toList] at hv
    rw [Addr.add_mid, Nat.zero_add]
    exact cell_blk r1 hv) ⟨b', o', none⟩ m cap' ((List.range cs.length).map f) (by rw [hi3]; simp [hl']) (fun j u hu => by
    rw [Addr.add_mid]
    obtain ⟨hj, he⟩ := List.getElem?_eq_some_iff.1 hu
    simp only [List.length_map, List.length_range] at hj
    rw [hc j hj, ← he]; simp) (by omega) (by simp only [maxLen] at h63; omega) (by rw [hi4]; exact hfit)
  have h1 := grownCap_ge w (n + m) n e
  have h2 := grownCap_le_maxLen w (n + m) n e h63
  generalize grownCap w (n + m) n e = cp at hrun h1 h2
  generalize hROW : (cur.toList.take (n * sz)).toArray ++ ((List.range cs.length).map f).toArray ++ Builtin.zeroCells z.cells (cp - (n + m)) = ROW at hrun
  have hzc : ∀ q, (Builtin.zeroCells z.cells q).size = q * sz := fun q => by simp [Builtin.zeroCells, hzs]
  have hlt : (cur.toList.take (n * sz)).length = n * sz := by rw [List.length_take]; simp; omega
  have hsz2 : ROW.size = cp * sz := by
   rw [← hROW, Array.size_append, Array.size_append, hzc]
   simp only [List.size_toArray, hlt, List.length_map, List.length_range, hl', ← Nat.add_mul]
   congr 1; omega
  have hlc : (B.cs.take (n * sz) ++ cs).length = (n + m) * sz := by rw [List.length_append, List.length_take, hl', Nat.add_mul]; omega
  obtain ⟨s1, s2, s3⟩ := h.grown (w' := w.drew.alloc (.cells ROW e)) (t := tt) (m := n + m) (e := e) (sz := sz) (S := x.S) (cs := B.cs.take (n * sz) ++ cs) (row := none) (g := w.heap.size) (cap := cp) (cur := ROW) (hne := hne2) (List.Sublist.refl _) (fun k hk => by cases hk)
   ⟨rfl, rfl, rfl, by show w.heap.size ≤ (w.heap.push _).size; simp, fun k hk _ => getElem?_push_lt (w := w.drew) hk⟩ (.inr rfl) (by show w.heap.size < (w.heap.push _).size; simp) (by show (w.heap.push _)[w.heap.size]? = _; simp) hsz2 (by rw [hlc]; exact Nat.mul_le_mul_right _ h1) (fun j hj => by
    rw [hlc, Nat.add_mul] at hj
    by_cases hin : j < n * sz
    ·obtain ⟨u, hu, hq⟩ := r4 j (by omega)
     refine ⟨u, ?_, ?_⟩
     ·rw [← hROW, Array.getElem?_append_left (by simp [hlt]; omega), Array.getElem?_append_left (by simp [hlt]; omega), List.getElem?_toArray, List.getElem?_take_of_lt hin, Array.getElem?_toList, hu]
     rw [List.getElem_append_left (by rw [List.length_take]; omega), List.getElem_take]; exact hq
    have hin2 : j - n * sz < cs.length := by omega
    refine ⟨f (j - n * sz), ?_, ?_⟩
    ·rw [← hROW, Array.getElem?_append_left (by simp [hlt]; omega), Array.getElem?_append_right (by simp [hlt]; omega)]
     simp [hlt, hin2]
    rw [List.getElem_append_right (by rw [List.length_take]; omega)]
    have := hrr (j - n * sz) hin2
    have e1 : (B.cs.take (n * sz)).length = n * sz := by rw [List.length_take]; omega
    simp only [e1]
    exact this)
  unfold Oper.wp
  rw [run_append (P := P) ho (h.flat hs) hg hrun, Oper.upon_value, hd]
  exact hK _ _ _ ⟨_, _, h1, h2, rfl⟩ s1 s2 s3

theorem still_slice3o {t e : TypeId} {len cap sz n : Nat} {k2 k3 : IntKind} {ad : Option Addr} {cs : List D} {Sq : List Blk} {y hi mx : Operand} (hO : OwnL e sz cs len ad cap Sq) (ho : o.op = .slice t y none (some hi) (some mx)) (hy : opd x y = .v (.slice ad len cap)) (hhi : opd x hi = .v (.int k2 n)) (hmx : opd x mx = .v (.int k3 n))
  (hu : ∀ w, (underlying t).run P w = .ok (.slice e) w) (hs : ∀ w, (sizeOf e).run P w = .ok sz w) (hn : n ≤ len) : Still P G x o .none (.v (.slice ad n n)) := by
 rcases hO with ⟨rfl, rfl, rfl, rfl, rfl⟩ | ⟨b, rfl, h1, h2, rfl⟩
 ·have h := still_slice3n (P := P) (G := G) ho hy hhi hmx (by omega) hu hs
  obtain rfl : n = 0 := by omega
  exact h
 exact still_slice3 ho hy hhi hmx hu hs (by omega)
theorem OD.appendNewG {α : Type} {g : α → List D} {ls new : List α} {n : Nat} {s y : Operand} {t e tt sz bytes cap : Nat} {ad : Option Addr} {z : Value} {Sq R : List Blk} (hg : ∀ a, (g a).length = sz) (hg1 : ∀ a, (g a).all one = true) (hw : Wants ops x o true) (ho : o.op = .call { callee := .builtin .append, args := #[s, y], argTypes := #[t, t] }) (hd : o.dst = some tt)
  (ht : P.underlying t = some (.slice e)) (hi : (P.info? e).map (fun i => (i.zero, i.size, i.bytes)) = some (some z, sz, bytes)) (hzs : z.cells.size = sz) (hsz : 0 < sz)
  (hs : opd x s = .v (.slice ad n n)) (hO : OwnL e sz (ls.flatMap g) ls.length ad cap Sq) (hp : x.S.Perm (Sq ++ R)) (hn : n ≤ ls.length)
  (hy : opd x y = .list sz (new.flatMap g) new.length) (hm : 0 < new.length) (h63 : n + new.length ≤ maxLen) (hbytes : (n + new.length) * bytes ≤ 140737488355328)
  (K : ∀ b' cap', (ls.take n ++ new).length ≤ cap' → cap' ≤ maxLen → OD P C ops l ⟨x.n, (tt, .v (.slice (some ⟨b', 0, none⟩) (ls.take n ++ new).length cap')) :: x.env, ⟨b', e, cap' * sz, (ls.take n ++ new).flatMap g⟩ :: R⟩ Q) (hne : isMap e = false := by rfl) : OD P C ops (o :: l) x Q := by
 have hlen : (ls.take n ++ new).length = n + new.length := by rw [List.length_append, List.length_take]; omega
 rcases hO with ⟨h1, h2, rfl, rfl, rfl⟩ | ⟨b, rfl, h1, h2, rfl⟩
 ·have hls : ls = [] := List.length_eq_zero_iff.1 h1
  subst hls
  obtain rfl : n = 0 := by simpa using hn
  refine OD.appendG (hne := hne) (ls := ([] : List α)) (new := new) (Sq := []) (R := R) (ad := none) (cap := 0) hg hg1 hw ho hd ht hi hzs hsz hs (.inl ⟨rfl, rfl, rfl, rfl, rfl⟩) hp hy hm (by simpa using h63) (by simpa using hbytes) ?_
  intro b' cap' q1 q2
  exact K b' cap' (by simpa using q1) q2
 refine OD.perm hp ?_
 refine OD.eff (fun C a w h => hw C a w (Wk.perm hp.symm C a w h)) (eff_appendNew (hne := hne) (hne2 := hne) (k := 0) ho hd ht hi hzs hsz hs rfl rfl (by rw [fm_len hg]; exact Nat.mul_le_mul_right _ hn) hy (fm_one hg1 new) (by rw [fm_take hg]; exact fm_one hg1 _) hm h63 hbytes) ?_
 rintro _ ⟨b', cap', q1, q2, rfl⟩
 have k := K b' cap' (by rw [hlen]; exact q1) q2
 rw [hlen, List.flatMap_append, ← fm_take hg] at k
 exact OD.wk (Wk.drop _ _ _ _ (List.Sublist.cons_cons _ (List.Sublist.cons _ (List.Sublist.refl _)))) k

variable {S1 T : List Nat} {fuel i : Nat} {ld : Array Bool}
theorem AStep.appendAny {α : Type} {g : α → List D} {ls new : List α} {s y : Operand} {t e tt sz bytes cap : Nat} {ad : Option Addr} {z : Value} {Sq R : List Blk} (hg : ∀ a, (g a).length = sz) (hg1 : ∀ a, (g a).all one = true) (hi' : ops[i]? = some o) (hw : Wants ops x o true) (ho : o.op = .call { callee := .builtin .append, args := #[s, y], argTypes := #[t, t] }) (hd : o.dst = some tt)
  (ht : P.underlying t = some (.slice e)) (hi : (P.info? e).map (fun i => (i.zero, i.size, i.bytes)) = some (some z, sz, bytes)) (hzs : z.cells.size = sz) (hsz : 0 < sz) (hu : ∀ w, (underlying t).run P w = .ok (.slice e) w) (hse : ∀ w, (sizeOf e).run P w = .ok sz w)
  (hs : opd x s = .v (.slice ad ls.length cap)) (ho' : OwnL e sz (ls.flatMap g) ls.length ad cap Sq) (hp : x.S.Perm (Sq ++ R))
  (hy : opd x y = .list sz (new.flatMap g) new.length) (h63 : ls.length + new.length ≤ maxLen) (hbytes : (ls.length + new.length) * bytes ≤ 140737488355328)
  (K : ∀ ad' cap' S', OwnL e sz ((ls ++ new).flatMap g) (ls ++ new).length ad' cap' S' → AD P C ops S1 T fuel (ld.setIfInBounds i true) ⟨x.n, (tt, .v (.slice ad' (ls ++ new).length cap')) :: x.env, S' ++ R⟩ Q) (hne : isMap e = false := by rfl)
  (hT : ∀ b ∈ T, b ∈ bks R := by (intro b hb; simp [bks] at hb ⊢; try first | exact hb | omega)) : AStep P C ops S1 T fuel ld x Q i := by
 rcases Nat.eq_zero_or_pos new.length with h0 | h0
 ·have hn : new = [] := List.eq_nil_of_length_eq_zero h0
  subst hn
  refine AStep.still hi' hw hd (still_append0 ho hu hse hs ho'.le hy) ?_
  have := K ad cap Sq (by rw [List.append_nil]; exact ho')
  rw [List.append_nil] at this
  exact AD.perm hp this
 exact AStep.appendG (hne := hne) (hT := hT) hg hg1 hi' hw ho hd ht hi hzs hsz hs ho' hp hy h0 h63 hbytes fun b' cap' h1 h2 => K _ cap' _ (ownL_row h1 h2)

end Go.Proofs.YtjgekbmahhhokaaDoor.V

namespace Go.Proofs.YtjgekbmahhhokaaDoor.V
open Go.RowKit
set_option linter.unusedVariables false

variable {H : Type} {enc : TypeId × Value → H} {P : Program} {w : World} {base : Nat} {sp : Nat → Bool} {held : Bool}

def RdsF (fuel : Nat) (enc : TypeId × Value → H) (P : Program) (w : World) (base : Nat) (sp : Nat → Bool) (held : Bool) (t : TypeId) {α : Type} (g : α → List D) (ok : α → Prop) : Prop :=
 ∀ cs x, DataW.trod enc P w base sp held fuel t cs = some x → ∃ a, RepL w (fun _ => False) (g a) cs ∧ ok a

theorem Rds.at {t : TypeId} {α : Type} {g : α → List D} {ok : α → Prop} (h : Rds enc P w base sp held t g ok) (n : Nat) : RdsF n enc P w base sp held t g ok := h n

theorem RepL.one {w : World} {L : Nat → Prop} {d : D} {v : Value} (h : Rep w L d v) : RepL w L [d] [v] := ⟨rfl, fun i h1 h2 => by
 have : i = 0 := by simpa using h1
 subst this
 exact h⟩

end Go.Proofs.YtjgekbmahhhokaaDoor.V

namespace Go.Proofs.YtjgekbmahhhokaaDoor.V
end Go.Proofs.YtjgekbmahhhokaaDoor.V


namespace Go.Proofs.YtjgekbmahhhokaaDoor.V
open Go.RowKit
set_option linter.unusedVariables false
set_option linter.unusedSimpArgs false

variable {P : Program} {C : Ctx} {G : List (Nat × List Value)} {Q : Exit → St → Prop} {x : St} {ops : Array Oper} {l : List Oper} {o : Oper} {S1 T : List Nat} {fuel i : Nat} {ld : Array Bool}

theorem AStep.callv {f t : Nat} {fo : Operand} {ars : Array Operand} {ts : Array TypeId} {args caps all : List D} {Sf R : List Blk} {post : D → List Blk → Prop} (hi : ops[i]? = some o) (hw : Wants ops x o true) (ho : o.op = .call { callee := .value fo, args := ars, argTypes := ts }) (hd : o.dst = some t)
  (hf : opd x fo = .clo (.func f) caps) (hcall : ∀ args w, (callFunc f args).run P w = .ok (.enter f args) w) (hc : VC P C.G f all Sf post) (hall : args ++ caps = all) (ha : Opds x ars.toList args) (hp : x.S.Perm (Sf ++ R)) (hT : ∀ b ∈ T, b ∈ bks R)
  (K : ∀ r S', post r S' → AD P C ops S1 T fuel (ld.setIfInBounds i true) ⟨x.n, (t, r) :: x.env, S' ++ R⟩ Q) : AStep P C ops S1 T fuel ld x Q i :=
 AStep.eff hi hw (eff_callv ho hd hf hcall (by rw [ha.eq, hall]) hp hc) (fun C a w hs b hb hm => by
  have h1 : (bks x.S).Perm (bks Sf ++ bks R) := by have := hp.map Blk.b; simpa [bks] using this
  have h2 := h1.nodup_iff.1 hs.own.apart
  exact (List.nodup_append.1 h2).2.2 b hm b (hT b hb) rfl) (fun b hb => by
  have h1 : (bks x.S).Perm (bks Sf ++ bks R) := by have := hp.map Blk.b; simpa [bks] using this
  exact h1.symm.subset (List.mem_append_left _ hb)) fun y ⟨r, S', h, hy⟩ => hy ▸ K r S' h

theorem VC.args {f : FuncId} {cs bs : List D} {S : List Blk} {post : D → List Blk → Prop} (h : VC P G f cs S post) (hl : bs.length = cs.length) (hr : ∀ (w : World) (L : Nat → Prop) (i : Nat) (h1 : i < cs.length) (h2 : i < bs.length) (v : Value), Rep w L bs[i] v → Rep w L cs[i] v) : VC P G f bs S post := fun X w vs hp => by
 refine h X w vs ⟨hp.ex, hp.tab, hp.own, ?_, fun i h1 h2 => ?_⟩
 ·rw [hp.args.1, hl]
 exact hr w _ i h1 (by omega) _ (hp.args.2 i (by omega) h2)
end Go.Proofs.YtjgekbmahhhokaaDoor.V

namespace Go.Proofs.YtjgekbmahhhokaaDoor.Nm
open Go.RowKit V
set_option linter.unusedVariables false
set_option linter.unusedSimpArgs false

def wordsB : List (List UInt8) := [[67, 82, 69, 65, 84, 69], [84, 65, 66, 76, 69], [68, 82, 79, 80], [73, 78, 83, 69, 82, 84], [73, 78, 84, 79], [86, 65, 76, 85, 69, 83], [83, 69, 76, 69, 67, 84], [67, 79, 85, 78, 84], [70, 82, 79, 77], [87, 72, 69, 82, 69], [79, 82, 68, 69, 82], [66, 89], [68, 69, 83, 67], [76, 73, 77, 73, 84], [85, 80, 68, 65, 84, 69], [83, 69, 84], [68, 69, 76, 69, 84, 69], [66, 69, 71, 73, 78], [67, 79, 77, 77, 73, 84], [82, 79, 76, 76, 66, 65, 67, 75], [65, 78, 68], [79, 82], [78, 79, 84], [73, 83], [78, 85, 76, 76], [84, 82, 85, 69], [70, 65, 76, 83, 69], [73, 78, 84], [84, 69, 88, 84], [66, 79, 79, 76]]
def marksB : List (List UInt8) := [[60, 61], [62, 61], [60, 62], [40], [41], [44], [42], [43], [45], [61], [60], [62]]
def wordsL : List ByteArray := wordsB.map fun b => ⟨b.toArray⟩
def marksL : List ByteArray := marksB.map fun b => ⟨b.toArray⟩
def wordsC : List Value := wordsL.map .string
def marksC : List Value := marksL.map .string

def letterB (c : UInt8) : Bool := decide ((97 ≤ c.toNat ∧ c.toNat ≤ 122) ∨ (65 ≤ c.toNat ∧ c.toNat ≤ 90) ∨ c.toNat = 95)
def digitB (c : UInt8) : Bool := decide (48 ≤ c.toNat ∧ c.toNat ≤ 57)
def wordB (c : UInt8) : Bool := letterB c || digitB c
def spanN (p : UInt8 → Bool) (s : ByteArray) : Nat := (s.data.toList.takeWhile p).length
theorem tw_len (p : UInt8 → Bool) : ∀ (l : List UInt8) (k : Nat), k ≤ l.length → (∀ x ∈ l.take k, p x = true) → (∀ h : k < l.length, p l[k] = false) → (l.takeWhile p).length = k
 | [], k, h, _, _ => by simp at h; subst h; rfl
 | a :: r, 0, _, _, h => by
  have : p a = false := h (by simp)
  rw [List.takeWhile_cons]; simp [this]
 | a :: r, k + 1, h1, h2, h3 => by
  have ha : p a = true := h2 a (by simp)
  rw [List.takeWhile_cons, if_pos ha, List.length_cons, tw_len p r k (by simpa using h1) (fun x hx => h2 x (by rw [List.take_succ_cons]; exact List.mem_cons_of_mem _ hx)) (fun h => by have := h3 (by simpa using h); simpa using this)]
theorem span_eq {p : UInt8 → Bool} {s : ByteArray} {k : Nat} (hk : k ≤ s.size) (h0 : ∀ x ∈ s.data.toList.take k, p x = true) (h1 : k < s.size → p (byteAt s k) = false) : spanN p s = k :=
 tw_len p _ k (by rw [str_len]; exact hk) h0 fun h => by rw [byteAt_get h]; exact h1 (by rw [str_len] at h; exact h)

structure Tk where
 k : Int
 s : ByteArray
 n : Int
def cT (t : Tk) : List D := [.v (.int .i64 t.k), .v (.string t.s), .v (.int .i64 t.n)]
theorem cT_len (t : Tk) : (cT t).length = 3 := rfl
theorem cT_one (t : Tk) : (cT t).all V.one = true := rfl
def okWord (s : ByteArray) : Bool := !decide (s.size = 0) && letterB (byteAt s 0) && ((spanN wordB s : Int) == (s.size : Int))
def checkT (t : Tk) : Int :=
 if t.k = 1 then (if (decide (t.n = 0) && okWord t.s) = true then 0 else 6)
 else if t.k = 2 then (if t.n < 0 then 3 else if t.s.size = 0 then 0 else 6)
 else if t.k = 3 then (if t.n = 0 then 0 else 6)
 else if t.k = 4 then (if (decide (t.n = 0) && marksL.any (eqS t.s)) = true then 0 else 6)
 else 2
def nameF (s : ByteArray) : Int := if s.size > 8 then 1 else if (!(okWord s) || wordsL.any (eqS s)) = true then 6 else 0
theorem check_word (s : ByteArray) : checkT ⟨1, s, 0⟩ = if okWord s = true then 0 else 6 := by
 unfold checkT
 rw [if_pos rfl]
 simp

variable {G : List (Nat × List Value)}

set_option maxHeartbeats 4000000 in
set_option maxRecDepth 100000 in
theorem letter_vp (c : UInt8) : VP Tryd.prog G 39 [.v (.int .u8 ((c).toNat : Int))] (.v (.bool (letterB c))) := by
 refine VC.body Tryd.func39 rfl Tryd.ntmps39 le_ fun X0 w0 S00 => ?_
 refine sr_ ?_
 refine om_ ?_
 refine nm_ [0] ?_
 refine sr_ ?_
 refine om_ ?_
 refine os_ bn_ ?_
 refine om_ ?_
 refine OD.split (t := 5) lk (fun hg5 => ?_) (fun hg5 => ?_)
 ·have hg5' := hg5; (try simp only [V.cnd, ne_eq] at hg5')
  refine om_ ?_
  refine os_ bn_ ?_
  refine os_ pkT_ ?_
  refine om_ ?_
  refine OD.split (t := 9) lk (fun hg9 => ?_) (fun hg9 => ?_)
  ·have hg9' := hg9; (try simp only [V.cnd, ne_eq] at hg9')
   refine sk_ ?_
   refine sk_ ?_
   refine sk_ ?_
   refine sj_ ?_
   refine sj_ ?_
   refine sk_ ?_
   refine os_ pkT_ ?_
   refine om_ ?_
   refine sk_ ?_
   refine sk_ ?_
   refine os_ pkT_ ?_
   refine om_ ?_
   refine nm_ [2] ?_
   refine CD.ret ?_
   refine r1_ ?_
   refine ⟨vb ?_, rfl⟩
   rw [Bool.eq_iff_iff]
   simp [letterB]
   first | done | omega
  have hg9' := hg9; (try simp only [V.cnd, ne_eq] at hg9')
  refine om_ ?_
  refine os_ bn_ ?_
  refine om_ ?_
  refine OD.split (t := 12) lk (fun hg12 => ?_) (fun hg12 => ?_)
  ·have hg12' := hg12; (try simp only [V.cnd, ne_eq] at hg12')
   refine om_ ?_
   refine os_ bn_ ?_
   refine os_ pkT_ ?_
   refine os_ pkF_ ?_
   refine om_ ?_
   refine OD.split (t := 17) lk (fun hg17 => ?_) (fun hg17 => ?_)
   ·have hg17' := hg17; (try simp only [V.cnd, ne_eq] at hg17')
    refine sk_ ?_
    refine sk_ ?_
    refine os_ pkT_ ?_
    refine om_ ?_
    refine nm_ [2] ?_
    refine CD.ret ?_
    refine r1_ ?_
    refine ⟨vb ?_, rfl⟩
    rw [Bool.eq_iff_iff]
    simp [letterB]
    first | done | omega
   have hg17' := hg17; (try simp only [V.cnd, ne_eq] at hg17')
   refine om_ ?_
   refine os_ bn_ ?_
   refine os_ pkF_ ?_
   refine om_ ?_
   refine nm_ [2] ?_
   refine CD.ret ?_
   refine r1_ ?_
   refine ⟨vb ?_, rfl⟩
   rw [Bool.eq_iff_iff]
   simp [letterB]
   first | done | omega
  have hg12' := hg12; (try simp only [V.cnd, ne_eq] at hg12')
  refine sk_ ?_
  refine sk_ ?_
  refine os_ pkF_ ?_
  refine os_ pkF_ ?_
  refine om_ ?_
  refine om_ ?_
  refine os_ bn_ ?_
  refine os_ pkF_ ?_
  refine om_ ?_
  refine nm_ [2] ?_
  refine CD.ret ?_
  refine r1_ ?_
  refine ⟨vb ?_, rfl⟩
  rw [Bool.eq_iff_iff]
  simp [letterB]
  first | done | omega
 have hg5' := hg5; (try simp only [V.cnd, ne_eq] at hg5')
 refine sk_ ?_
 refine sk_ ?_
 refine os_ pkF_ ?_
 refine om_ ?_
 refine om_ ?_
 refine os_ bn_ ?_
 refine om_ ?_
 refine OD.split (t := 12) lk (fun hg12 => ?_) (fun hg12 => ?_)
 ·have hg12' := hg12; (try simp only [V.cnd, ne_eq] at hg12')
  refine om_ ?_
  refine os_ bn_ ?_
  refine os_ pkT_ ?_
  refine os_ pkF_ ?_
  refine om_ ?_
  refine OD.split (t := 17) lk (fun hg17 => ?_) (fun hg17 => ?_)
  ·have hg17' := hg17; (try simp only [V.cnd, ne_eq] at hg17')
   refine sk_ ?_
   refine sk_ ?_
   refine os_ pkT_ ?_
   refine om_ ?_
   refine nm_ [2] ?_
   refine CD.ret ?_
   refine r1_ ?_
   refine ⟨vb ?_, rfl⟩
   rw [Bool.eq_iff_iff]
   simp [letterB]
   first | done | omega
  have hg17' := hg17; (try simp only [V.cnd, ne_eq] at hg17')
  refine om_ ?_
  refine os_ bn_ ?_
  refine os_ pkF_ ?_
  refine om_ ?_
  refine nm_ [2] ?_
  refine CD.ret ?_
  refine r1_ ?_
  refine ⟨vb ?_, rfl⟩
  rw [Bool.eq_iff_iff]
  simp [letterB]
  first | done | omega
 have hg12' := hg12; (try simp only [V.cnd, ne_eq] at hg12')
 refine sk_ ?_
 refine sk_ ?_
 refine os_ pkF_ ?_
 refine os_ pkF_ ?_
 refine om_ ?_
 refine om_ ?_
 refine os_ bn_ ?_
 refine os_ pkF_ ?_
 refine om_ ?_
 refine nm_ [2] ?_
 refine CD.ret ?_
 refine r1_ ?_
 refine ⟨vb ?_, rfl⟩
 rw [Bool.eq_iff_iff]
 simp [letterB]
 first | done | omega

set_option maxHeartbeats 4000000 in
set_option maxRecDepth 100000 in
theorem digit_vp (c : UInt8) : VP Tryd.prog G 41 [.v (.int .u8 ((c).toNat : Int))] (.v (.bool (digitB c))) := by
 refine VC.body Tryd.func41 rfl Tryd.ntmps41 le_ fun X0 w0 S00 => ?_
 refine sr_ ?_
 refine om_ ?_
 refine nm_ [0] ?_
 refine sr_ ?_
 refine om_ ?_
 refine os_ bn_ ?_
 refine om_ ?_
 refine OD.split (t := 5) lk (fun hg5 => ?_) (fun hg5 => ?_)
 ·have hg5' := hg5; (try simp only [V.cnd, ne_eq] at hg5')
  refine om_ ?_
  refine os_ bn_ ?_
  refine os_ pkT_ ?_
  refine om_ ?_
  refine nm_ [2] ?_
  refine CD.ret ?_
  refine r1_ ?_
  refine ⟨vb ?_, rfl⟩
  rw [Bool.eq_iff_iff]
  simp [digitB]
  first | done | omega
 have hg5' := hg5; (try simp only [V.cnd, ne_eq] at hg5')
 refine sk_ ?_
 refine sk_ ?_
 refine os_ pkF_ ?_
 refine om_ ?_
 refine nm_ [2] ?_
 refine CD.ret ?_
 refine r1_ ?_
 refine ⟨vb ?_, rfl⟩
 rw [Bool.eq_iff_iff]
 simp [digitB]
 first | done | omega

set_option maxHeartbeats 4000000 in
set_option maxRecDepth 100000 in
theorem wordB_vp (c : UInt8) : VP Tryd.prog G 40 [.v (.int .u8 ((c).toNat : Int))] (.v (.bool (wordB c))) := by
 refine VC.body Tryd.func40 rfl Tryd.ntmps40 le_ fun X0 w0 S00 => ?_
 refine sr_ ?_
 refine om_ ?_
 refine nm_ [0] ?_
 refine sr_ ?_
 refine om_ ?_
 refine oc_ Tryd.call39 (letter_vp c) ?_
 refine om_ ?_
 refine OD.split (t := 5) lk (fun hg5 => ?_) (fun hg5 => ?_)
 ·have hg5' := hg5; (try simp only [V.cnd, ne_eq] at hg5')
  refine sk_ ?_
  refine sk_ ?_
  refine os_ pkT_ ?_
  refine om_ ?_
  refine on_ [(2, _)] [] ?_
  refine CD.ret ?_
  refine ⟨.inr rfl, rt_ Tryd.results40 ?_⟩
  exact ⟨vb (by simp [wordB, *]), rfl⟩
 have hg5' := hg5; (try simp only [V.cnd, ne_eq] at hg5')
 refine om_ ?_
 refine OD.callP wt_ rfl rfl rfl Tryd.call41 (digit_vp c) ⟨ot, trivial⟩ ?_
 refine os_ pkF_ ?_
 refine om_ ?_
 refine on_ [(2, _)] [] ?_
 refine CD.ret ?_
 refine ⟨.inr rfl, rt_ Tryd.results40 ?_⟩
 exact ⟨vb (by simp [wordB, *]), rfl⟩

set_option maxHeartbeats 4000000 in
set_option maxRecDepth 100000 in
theorem span_vp (s : ByteArray) (g : Nat) (p : UInt8 → Bool) (hcall : ∀ args w, (callFunc g args).run Tryd.prog w = .ok (.enter g args) w) (hp : ∀ c, VP Tryd.prog G g [.v (.int .u8 ((c).toNat : Int))] (.v (.bool (p c)))) (hs : s.size ≤ maxLen) : VP Tryd.prog G 36 [.v (.string s), .clo (.func g) []] (.v (.int .i64 (spanN p s))) := by
 refine VC.body Tryd.func36 rfl Tryd.ntmps36 le_ fun X0 w0 S00 => ?_
 simp only [maxLen] at hs
 refine sr_ ?_
 refine om_ ?_
 refine nm_ [0, 1] ?_
 refine sr_ ?_
 refine om_ ?_
 refine nm_ [0, 1, 5] ?_
 refine CD.seq ?_
 refine CD.block ?_
 refine lp_ (fun (k : Nat) y__ => (k ≤ s.size) ∧ (∀ x ∈ s.data.toList.take k, p x = true) ∧ y__ = (⟨20, [(0, .v (.string s)), (1, .clo (.func g) []), (5, .v (.int .i64 (k : Nat)))], []⟩ : St)) (fun (k : Nat) => s.size - k) 0 ⟨(Nat.zero_le _), (by simp), rfl⟩ (Wk.asS rfl sv_ (by repeat (first | exact trivial | refine ⟨lq_, ?_⟩))) ?_
 rintro k _ ⟨hk, h0, rfl⟩
 refine CD.seq ?_
 refine sr_ ?_
 refine om_ ?_
 refine om_ ?_
 refine os_ (still_slen rfl rfl ot Tryd.runUnderlying9) ?_
 refine os_ bn_ ?_
 refine om_ ?_
 refine OD.split (t := 10) lk (fun hg10 => ?_) (fun hg10 => ?_)
 ·have hg10' := hg10; (try simp only [V.cnd, ne_eq] at hg10')
  have hks : k < s.size := by omega
  have hkc : s[k]? = some (byteAt s k) := str_at hks
  refine om_ ?_
  refine om_ ?_
  refine om_ ?_
  refine OD.still wt_ rfl (still_sidx rfl ot ot Tryd.runUnderlying9 rfl (by first | assumption | rfl)) ?_
  refine OD.callv (f := g) (args := [_]) (all := [_]) wt_ rfl rfl ot hcall (hp (byteAt s k)) rfl ⟨ot, trivial⟩ (perm_none _) ?_; rintro _ S2 ⟨rfl, rfl⟩
  refine os_ pkT_ ?_
  refine on_ [(0, _), (1, _), (5, _), (16, _)] [] ?_
  refine CD.cond ot (fun hc0 => ?_) (fun hc0 => ?_)
  ·have hc0' := hc0
   (try simp only [V.cnd, ne_eq] at hc0')
   refine CD.skip ?_
   refine CD.block ?_
   refine CD.region ?_
   refine om_ ?_
   refine os_ bn_ ?_
   refine om_ ?_
   refine nm_ [0, 1, 5] ?_
   refine ⟨(k + 1), _, ?_, ?_, (by omega), (all_step (by rw [str_len]; exact hks) h0 (by rw [byteAt_get]; assumption)), rfl⟩
   ·first | omega | (simp only []; omega)
   exact Wk.asS (n := 20) rfl sv_ (by repeat (first | exact trivial | refine ⟨lq_, ?_⟩))
  have hc0' := hc0
  (try simp only [V.cnd, ne_eq] at hc0')
  refine CD.exit ?_
  refine sr_ ?_
  refine om_ ?_
  refine om_ ?_
  refine nm_ [4] ?_
  refine CD.ret ?_
  refine r1_ ?_
  refine ⟨vi ?_, rfl⟩
  first | (rw [span_eq hk h0 (fun h => by omega)]; done) | (rw [span_eq hk h0 (fun h => by assumption)]; done)
 have hg10' := hg10; (try simp only [V.cnd, ne_eq] at hg10')
 refine sk_ ?_
 refine sk_ ?_
 refine sk_ ?_
 refine sk_ ?_
 refine sk_ ?_
 refine os_ pkF_ ?_
 refine on_ [(0, _), (1, _), (5, _), (16, _)] [] ?_
 refine CD.condF ot (by first | rfl | assumption) ?_
 refine CD.exit ?_
 refine sr_ ?_
 refine om_ ?_
 refine om_ ?_
 refine nm_ [4] ?_
 refine CD.ret ?_
 refine r1_ ?_
 refine ⟨vi ?_, rfl⟩
 first | (rw [span_eq hk h0 (fun h => by omega)]; done) | (rw [span_eq hk h0 (fun h => by assumption)]; done)

set_option maxHeartbeats 4000000 in
set_option maxRecDepth 100000 in
theorem index_vp (ss : List ByteArray) (s : ByteArray) (hlen : ss.length ≤ maxLen) : VP Tryd.prog G 72 [.list 1 (ss.flatMap cS) ss.length, .v (.string s)] (.v (.int .i64 (idxG (eqS s) ss))) := by
 refine VC.body Tryd.func72 rfl Tryd.ntmps72 le_ fun X0 w0 S00 => ?_
 simp only [maxLen] at hlen
 refine sr_ ?_
 refine om_ ?_
 refine nm_ [0, 1] ?_
 refine CD.seq ?_
 refine sr_ ?_
 refine om_ ?_
 refine os_ ln_ ?_
 refine om_ ?_
 refine nm_ [0, 1, 7, 8] ?_
 refine CD.block ?_
 refine lp_ (fun (k : Nat) y__ => (k ≤ ss.length) ∧ (∀ x ∈ ss.take k, eqS s x = false) ∧ y__ = (⟨19, [(0, .list 1 (ss.flatMap cS) ss.length), (1, .v (.string s)), (7, .v (.int .i64 ss.length)), (8, .v (.int .i64 (k : Nat)))], []⟩ : St)) (fun (k : Nat) => ss.length - k) 0 ⟨(Nat.zero_le _), (by simp), rfl⟩ (Wk.asS rfl sv_ (by repeat (first | exact trivial | refine ⟨lq_, ?_⟩))) ?_
 rintro k _ ⟨hk, h0, rfl⟩
 refine sr_ ?_
 refine os_ bn_ ?_
 refine nm_ [0, 1, 7, 8, 9] ?_
 refine CD.seq ?_
 refine CD.cond ot (fun hc0 => ?_) (fun hc0 => ?_)
 ·have hc0' := hc0
  (try simp only [V.cnd, ne_eq] at hc0')
  have hlt : k < ss.length := by omega
  refine CD.skip ?_
  refine CD.seq ?_
  refine CD.block ?_
  refine sr_ ?_
  refine om_ ?_
  refine om_ ?_
  refine nm_ [0, 1, 5, 7, 8] ?_
  refine sr_ ?_
  refine om_ ?_
  refine om_ ?_
  refine om_ ?_
  refine os_ (ix_ 1) ?_
  refine os_ ld_ ?_
  refine os_ bn_ ?_
  refine nm_ [0, 1, 5, 7, 8, 16] ?_
  refine CD.cond ot (fun hc1 => ?_) (fun hc1 => ?_)
  ·have hc1' := hc1
   (try simp only [V.cnd, ne_eq] at hc1')
   refine sr_ ?_
   refine om_ ?_
   refine om_ ?_
   refine nm_ [4] ?_
   refine CD.ret ?_
   refine r1_ ?_
   refine ⟨vi ?_, rfl⟩
   first | (rw [idxG_hit (by omega) h0 hc1]; done) | (rw [idxG_none (by omega) h0]; done)
  have hc1' := hc1
  (try simp only [V.cnd, ne_eq] at hc1')
  refine CD.skip ?_
  refine CD.region ?_
  refine os_ bn_ ?_
  refine om_ ?_
  refine nm_ [0, 1, 7, 8] ?_
  refine ⟨(k + 1), _, ?_, ?_, (by omega), (all_step (by omega) h0 hc1), rfl⟩
  ·first | omega | (simp only []; omega)
  exact Wk.asS (n := 19) rfl sv_ (by repeat (first | exact trivial | refine ⟨lq_, ?_⟩))
 have hc0' := hc0
 (try simp only [V.cnd, ne_eq] at hc0')
 refine CD.exit ?_
 refine sr_ ?_
 refine om_ ?_
 refine nm_ [4] ?_
 refine CD.ret ?_
 refine r1_ ?_
 refine ⟨vi ?_, rfl⟩
 first | (rw [idxG_hit (by omega) h0 hc1]; done) | (rw [idxG_none (by omega) h0]; done)

set_option maxHeartbeats 4000000 in
set_option maxRecDepth 100000 in
theorem contains_vp (ss : List ByteArray) (s : ByteArray) (hlen : ss.length ≤ maxLen) : VP Tryd.prog G 42 [.list 1 (ss.flatMap cS) ss.length, .v (.string s)] (.v (.bool (ss.any (eqS s)))) := by
 refine VC.body Tryd.func42 rfl Tryd.ntmps42 le_ fun X0 w0 S00 => ?_
 refine sr_ ?_
 refine om_ ?_
 refine nm_ [0, 1] ?_
 refine sr_ ?_
 refine om_ ?_
 refine om_ ?_
 refine oc_ Tryd.call72 (index_vp ss s hlen) ?_
 refine os_ bn_ ?_
 refine om_ ?_
 refine on_ [(4, _)] [] ?_
 refine CD.ret ?_
 refine ⟨.inr rfl, rt_ Tryd.results42 ?_⟩
 exact ⟨vb idxG_any, rfl⟩

set_option maxHeartbeats 4000000 in
set_option maxRecDepth 100000 in
theorem check_vp (hm : (0, marksC) ∈ G) (t : Tk) (hs : t.s.size ≤ maxLen) : VP Tryd.prog G 23 [.agg (cT t)] (.v (.int .i64 (checkT t))) := by
 refine VC.body Tryd.func23 rfl Tryd.ntmps23 le_ fun X0 w0 S00 => ?_
 unfold cT
 refine sr_ ?_
 refine OD.box (ds := [_, _, _]) wp_ rfl rfl ot rfl rfl (fun b1 => ?_)
 refine om_ ?_
 refine on_ [(1, _)] [⟨b1, 24, 3, [_, _, _]⟩] ?_
 refine sr_ ?_
 refine os_ (fa_ 2) ?_
 refine os_ (lb_ 0) ?_
 refine os_ bn_ ?_
 refine om_ ?_
 refine nm_ [1, 3] ?_
 refine CD.seq ?_
 refine sr_ ?_
 refine os_ (fa_ 0) ?_
 refine os_ (lb_ 0) ?_
 refine nm_ [1, 3, 8] ?_
 refine CD.block ?_
 refine sr_ ?_
 refine os_ bn_ ?_
 refine om_ ?_
 refine nm_ [1, 3, 8, 9] ?_
 refine CD.cond ot (fun hc0 => ?_) (fun hc0 => ?_)
 ·have hc0' := hc0
  (try simp only [V.cnd, ne_eq] at hc0')
  refine CD.draw (bks _) kr_ (fun _ h => h) ?_
  refine tz_ 0 rfl (still_mv rfl ot) ?_
  refine tz_ 1 rfl (still_mv rfl ot) ?_
  refine AD0.split (t := 12) lk (fun hg12 => ?_) (fun hg12 => ?_)
  ·have hg12' := hg12; (try simp only [V.cnd, ne_eq] at hg12')
   refine AD0.take (i := 2) rfl kr_ kr_ kr_ np_ wt_ rfl (still_r1 (mk := fun y => Op.fieldAddr 24 y 1) rfl ot (by first | exact fa_ptr (off := 1) Tryd.runUnderlying24 rfl Tryd.sizeOf9 rfl | exact fa_iptr (off := 1) Tryd.runUnderlying24 rfl Tryd.sizeOf9 rfl)) (by exact trivial) ?_
   refine AD0.take (i := 3) rfl kr_ kr_ kr_ np_ wt_ rfl (still_r1 (mk := Op.load 9) rfl ot (by first | exact ld_blk (k := 0) rfl rfl Tryd.isAgg9 rfl | exact ld_i Tryd.isAgg9 rfl)) (by first | exact trivial | exact safe_blk (k0 := 0) rfl rfl) ?_
   refine AD0.take (i := 4) rfl kr_ kr_ kr_ np_ wt_ rfl (still_bin rfl ot opd_const bin_sneq) (by exact trivial) ?_
   refine tz_ 5 rfl (still_pickT rfl ot (by first | rfl | assumption) ot) ?_
   refine tz_ 6 rfl (still_mv rfl ot) ?_
   refine AD0.split (t := 17) lk (fun hg17 => ?_) (fun hg17 => ?_)
   ·have hg17' := hg17; (try simp only [V.cnd, ne_eq] at hg17')
    refine AD0.take (i := 7) rfl kr_ kr_ kr_ np_ wt_ rfl (still_r1 (mk := fun y => Op.fieldAddr 24 y 1) rfl ot (by first | exact fa_ptr (off := 1) Tryd.runUnderlying24 rfl Tryd.sizeOf9 rfl | exact fa_iptr (off := 1) Tryd.runUnderlying24 rfl Tryd.sizeOf9 rfl)) (by exact trivial) ?_
    refine AD0.take (i := 8) rfl kr_ kr_ kr_ np_ wt_ rfl (still_r1 (mk := Op.load 9) rfl ot (by first | exact ld_blk (k := 0) rfl rfl Tryd.isAgg9 rfl | exact ld_i Tryd.isAgg9 rfl)) (by first | exact trivial | exact safe_blk (k0 := 0) rfl rfl) ?_
    refine AD0.take (i := 9) rfl kr_ kr_ kr_ np_ wt_ rfl (still_sidx (c := byteAt t.s 0) rfl ot opd_const Tryd.runUnderlying9 rfl (str_at (str_ne (by assumption)))) (by exact trivial) ?_
    refine AD0.later rfl ?_
    refine AD.one (i := 10) kr_ ?_
    refine AStep.callP rfl wt_ rfl rfl rfl Tryd.call39 (letter_vp _) ⟨ot, trivial⟩ ?_
    refine tk_ 11 rfl (still_pickT rfl ot (by first | rfl | assumption) ot) ?_
    refine tk_ 12 rfl (still_mv rfl ot) ?_
    refine AD.split (t := 23) lk (fun hg23 => ?_) (fun hg23 => ?_)
    ·have hg23' := hg23; (try simp only [V.cnd, ne_eq] at hg23')
     refine AD.take (i := 13) rfl kr_ kr_ kr_ np_ wt_ rfl (still_r1 (mk := fun y => Op.fieldAddr 24 y 1) rfl ot (by first | exact fa_ptr (off := 1) Tryd.runUnderlying24 rfl Tryd.sizeOf9 rfl | exact fa_iptr (off := 1) Tryd.runUnderlying24 rfl Tryd.sizeOf9 rfl)) (by exact trivial) (by intro h; cases h) ?_
     refine AD.take (i := 16) rfl kr_ kr_ kr_ np_ wt_ rfl (still_r1 (mk := fun y => Op.fieldAddr 24 y 1) rfl ot (by first | exact fa_ptr (off := 1) Tryd.runUnderlying24 rfl Tryd.sizeOf9 rfl | exact fa_iptr (off := 1) Tryd.runUnderlying24 rfl Tryd.sizeOf9 rfl)) (by exact trivial) (by intro h; cases h) ?_
     refine AD.two (i := 14) (j := 17) kr_ ?_ ?_
     ·skip
      refine AStep.still rfl wt_ rfl (still_r1 (mk := Op.load 9) rfl ot (by first | exact ld_blk (k := 0) rfl rfl Tryd.isAgg9 rfl | exact ld_i Tryd.isAgg9 rfl)) ?_
      refine AD.two (i := 15) (j := 17) kr_ ?_ ?_
      ·skip
       refine AStep.callP rfl wt_ rfl rfl rfl Tryd.call36 (span_vp t.s 40 wordB Tryd.call40 wordB_vp hs) ⟨ot, opd_func, trivial⟩ ?_
       refine AD.one (i := 17) kr_ ?_
       refine AStep.still rfl wt_ rfl (still_r1 (mk := Op.load 9) rfl ot (by first | exact ld_blk (k := 0) rfl rfl Tryd.isAgg9 rfl | exact ld_i Tryd.isAgg9 rfl)) ?_
       refine AD.take (i := 18) rfl kr_ kr_ kr_ np_ wt_ rfl (still_slen rfl rfl ot Tryd.runUnderlying9) (by exact trivial) (by intro h; cases h) ?_
       refine AD.take (i := 19) rfl kr_ kr_ kr_ np_ wt_ rfl (still_bin rfl ot ot bin_eql) (by exact trivial) (by intro h; cases h) ?_
       refine tk_ 20 rfl (still_pickT rfl ot (by first | rfl | assumption) ot) ?_
       refine tk_ 21 rfl (still_as rfl ot) ?_
       refine aw_ [(3, _)] [⟨b1, 24, 3, [_, _, _]⟩] ?_
       refine AD.done kr_ ?_
       refine CD.seq ?_
       refine sr_ ?_
       refine om_ ?_
       refine os_ un_ ?_
       refine nm_ [52] ?_
       refine CD.cond ot (fun hc5 => ?_) (fun hc5 => ?_)
       ·have hc5' := hc5
        (try simp only [V.cnd, ne_eq] at hc5')
        refine sr_ ?_
        refine om_ ?_
        refine nm_ [2] ?_
        refine CD.ret ?_
        refine r1_ ?_
        refine ⟨vi ?_, rfl⟩
        try simp only [str_eq0] at *
        simp only [checkT, okWord]
        try simp_all
        try omega
       have hc5' := hc5
       (try simp only [V.cnd, ne_eq] at hc5')
       refine CD.skip ?_
       refine sr_ ?_
       refine om_ ?_
       refine nm_ [2] ?_
       refine CD.ret ?_
       refine r1_ ?_
       refine ⟨vi ?_, rfl⟩
       try simp only [str_eq0] at *
       simp only [checkT, okWord]
       try simp_all
       try omega
      refine AStep.still rfl wt_ rfl (still_r1 (mk := Op.load 9) rfl ot (by first | exact ld_blk (k := 0) rfl rfl Tryd.isAgg9 rfl | exact ld_i Tryd.isAgg9 rfl)) ?_
      refine AD.take (i := 18) rfl kr_ kr_ kr_ np_ wt_ rfl (still_slen rfl rfl ot Tryd.runUnderlying9) (by exact trivial) (by intro h; cases h) ?_
      refine AD.one (i := 15) kr_ ?_
      refine AStep.callP rfl wt_ rfl rfl rfl Tryd.call36 (span_vp t.s 40 wordB Tryd.call40 wordB_vp hs) ⟨ot, opd_func, trivial⟩ ?_
      refine AD.take (i := 19) rfl kr_ kr_ kr_ np_ wt_ rfl (still_bin rfl ot ot bin_eql) (by exact trivial) (by intro h; cases h) ?_
      refine tk_ 20 rfl (still_pickT rfl ot (by first | rfl | assumption) ot) ?_
      refine tk_ 21 rfl (still_as rfl ot) ?_
      refine aw_ [(3, _)] [⟨b1, 24, 3, [_, _, _]⟩] ?_
      refine AD.done kr_ ?_
      refine CD.seq ?_
      refine sr_ ?_
      refine om_ ?_
      refine os_ un_ ?_
      refine nm_ [52] ?_
      refine CD.cond ot (fun hc5 => ?_) (fun hc5 => ?_)
      ·have hc5' := hc5
       (try simp only [V.cnd, ne_eq] at hc5')
       refine sr_ ?_
       refine om_ ?_
       refine nm_ [2] ?_
       refine CD.ret ?_
       refine r1_ ?_
       refine ⟨vi ?_, rfl⟩
       try simp only [str_eq0] at *
       simp only [checkT, okWord]
       try simp_all
       try omega
      have hc5' := hc5
      (try simp only [V.cnd, ne_eq] at hc5')
      refine CD.skip ?_
      refine sr_ ?_
      refine om_ ?_
      refine nm_ [2] ?_
      refine CD.ret ?_
      refine r1_ ?_
      refine ⟨vi ?_, rfl⟩
      try simp only [str_eq0] at *
      simp only [checkT, okWord]
      try simp_all
      try omega
     refine AStep.still rfl wt_ rfl (still_r1 (mk := Op.load 9) rfl ot (by first | exact ld_blk (k := 0) rfl rfl Tryd.isAgg9 rfl | exact ld_i Tryd.isAgg9 rfl)) ?_
     refine AD.take (i := 18) rfl kr_ kr_ kr_ np_ wt_ rfl (still_slen rfl rfl ot Tryd.runUnderlying9) (by exact trivial) (by intro h; cases h) ?_
     refine AD.one (i := 14) kr_ ?_
     refine AStep.still rfl wt_ rfl (still_r1 (mk := Op.load 9) rfl ot (by first | exact ld_blk (k := 0) rfl rfl Tryd.isAgg9 rfl | exact ld_i Tryd.isAgg9 rfl)) ?_
     refine AD.one (i := 15) kr_ ?_
     refine AStep.callP rfl wt_ rfl rfl rfl Tryd.call36 (span_vp t.s 40 wordB Tryd.call40 wordB_vp hs) ⟨ot, opd_func, trivial⟩ ?_
     refine AD.take (i := 19) rfl kr_ kr_ kr_ np_ wt_ rfl (still_bin rfl ot ot bin_eql) (by exact trivial) (by intro h; cases h) ?_
     refine tk_ 20 rfl (still_pickT rfl ot (by first | rfl | assumption) ot) ?_
     refine tk_ 21 rfl (still_as rfl ot) ?_
     refine aw_ [(3, _)] [⟨b1, 24, 3, [_, _, _]⟩] ?_
     refine AD.done kr_ ?_
     refine CD.seq ?_
     refine sr_ ?_
     refine om_ ?_
     refine os_ un_ ?_
     refine nm_ [52] ?_
     refine CD.cond ot (fun hc5 => ?_) (fun hc5 => ?_)
     ·have hc5' := hc5
      (try simp only [V.cnd, ne_eq] at hc5')
      refine sr_ ?_
      refine om_ ?_
      refine nm_ [2] ?_
      refine CD.ret ?_
      refine r1_ ?_
      refine ⟨vi ?_, rfl⟩
      try simp only [str_eq0] at *
      simp only [checkT, okWord]
      try simp_all
      try omega
     have hc5' := hc5
     (try simp only [V.cnd, ne_eq] at hc5')
     refine CD.skip ?_
     refine sr_ ?_
     refine om_ ?_
     refine nm_ [2] ?_
     refine CD.ret ?_
     refine r1_ ?_
     refine ⟨vi ?_, rfl⟩
     try simp only [str_eq0] at *
     simp only [checkT, okWord]
     try simp_all
     try omega
    have hg23' := hg23; (try simp only [V.cnd, ne_eq] at hg23')
    refine ts_ 13 ?_
    refine ts_ 16 ?_
    refine AD.two (i := 14) (j := 17) kr_ ?_ ?_
    ·skip
     refine AStep.skip rfl (wants_F rfl rfl rfl lk (by first | rfl | assumption)) rfl ?_
     refine AD.two (i := 15) (j := 17) kr_ ?_ ?_
     ·skip
      refine AStep.skip rfl (wants_F rfl rfl rfl lk (by first | rfl | assumption)) rfl ?_
      refine AD.one (i := 17) kr_ ?_
      refine AStep.skip rfl (wants_F rfl rfl rfl lk (by first | rfl | assumption)) rfl ?_
      refine ts_ 18 ?_
      refine ts_ 19 ?_
      refine tk_ 20 rfl (still_pickF rfl ot (by first | rfl | assumption) opd_const) ?_
      refine tk_ 21 rfl (still_as rfl ot) ?_
      refine aw_ [(3, _)] [⟨b1, 24, 3, [_, _, _]⟩] ?_
      refine AD.done kr_ ?_
      refine CD.seq ?_
      refine sr_ ?_
      refine om_ ?_
      refine os_ un_ ?_
      refine nm_ [52] ?_
      refine CD.condT ot (by first | rfl | assumption) ?_
      refine sr_ ?_
      refine om_ ?_
      refine nm_ [2] ?_
      refine CD.ret ?_
      refine r1_ ?_
      refine ⟨vi ?_, rfl⟩
      try simp only [str_eq0] at *
      simp only [checkT, okWord]
      try simp_all
      try omega
     refine AStep.skip rfl (wants_F rfl rfl rfl lk (by first | rfl | assumption)) rfl ?_
     refine ts_ 18 ?_
     refine AD.one (i := 15) kr_ ?_
     refine AStep.skip rfl (wants_F rfl rfl rfl lk (by first | rfl | assumption)) rfl ?_
     refine ts_ 19 ?_
     refine tk_ 20 rfl (still_pickF rfl ot (by first | rfl | assumption) opd_const) ?_
     refine tk_ 21 rfl (still_as rfl ot) ?_
     refine aw_ [(3, _)] [⟨b1, 24, 3, [_, _, _]⟩] ?_
     refine AD.done kr_ ?_
     refine CD.seq ?_
     refine sr_ ?_
     refine om_ ?_
     refine os_ un_ ?_
     refine nm_ [52] ?_
     refine CD.condT ot (by first | rfl | assumption) ?_
     refine sr_ ?_
     refine om_ ?_
     refine nm_ [2] ?_
     refine CD.ret ?_
     refine r1_ ?_
     refine ⟨vi ?_, rfl⟩
     try simp only [str_eq0] at *
     simp only [checkT, okWord]
     try simp_all
     try omega
    refine AStep.skip rfl (wants_F rfl rfl rfl lk (by first | rfl | assumption)) rfl ?_
    refine ts_ 18 ?_
    refine AD.one (i := 14) kr_ ?_
    refine AStep.skip rfl (wants_F rfl rfl rfl lk (by first | rfl | assumption)) rfl ?_
    refine AD.one (i := 15) kr_ ?_
    refine AStep.skip rfl (wants_F rfl rfl rfl lk (by first | rfl | assumption)) rfl ?_
    refine ts_ 19 ?_
    refine tk_ 20 rfl (still_pickF rfl ot (by first | rfl | assumption) opd_const) ?_
    refine tk_ 21 rfl (still_as rfl ot) ?_
    refine aw_ [(3, _)] [⟨b1, 24, 3, [_, _, _]⟩] ?_
    refine AD.done kr_ ?_
    refine CD.seq ?_
    refine sr_ ?_
    refine om_ ?_
    refine os_ un_ ?_
    refine nm_ [52] ?_
    refine CD.condT ot (by first | rfl | assumption) ?_
    refine sr_ ?_
    refine om_ ?_
    refine nm_ [2] ?_
    refine CD.ret ?_
    refine r1_ ?_
    refine ⟨vi ?_, rfl⟩
    try simp only [str_eq0] at *
    simp only [checkT, okWord]
    try simp_all
    try omega
   have hg17' := hg17; (try simp only [V.cnd, ne_eq] at hg17')
   refine AD0.takeSkip (i := 7) rfl kr_ kr_ kr_ np_ (wants_F rfl rfl rfl lk (by first | rfl | assumption)) rfl ?_
   refine AD0.takeSkip (i := 8) rfl kr_ kr_ kr_ np_ (wants_F rfl rfl rfl lk (by first | rfl | assumption)) rfl ?_
   refine AD0.takeSkip (i := 9) rfl kr_ kr_ kr_ np_ (wants_F rfl rfl rfl lk (by first | rfl | assumption)) rfl ?_
   refine AD0.later rfl ?_
   refine AD.one (i := 10) kr_ ?_
   refine AStep.skip rfl (wants_F rfl rfl rfl lk (by first | rfl | assumption)) rfl ?_
   refine tk_ 11 rfl (still_pickF rfl ot (by first | rfl | assumption) opd_const) ?_
   refine tk_ 12 rfl (still_mv rfl ot) ?_
   refine ts_ 13 ?_
   refine ts_ 16 ?_
   refine AD.two (i := 14) (j := 17) kr_ ?_ ?_
   ·skip
    refine AStep.skip rfl (wants_F rfl rfl rfl lk (by first | rfl | assumption)) rfl ?_
    refine AD.two (i := 15) (j := 17) kr_ ?_ ?_
    ·skip
     refine AStep.skip rfl (wants_F rfl rfl rfl lk (by first | rfl | assumption)) rfl ?_
     refine AD.one (i := 17) kr_ ?_
     refine AStep.skip rfl (wants_F rfl rfl rfl lk (by first | rfl | assumption)) rfl ?_
     refine ts_ 18 ?_
     refine ts_ 19 ?_
     refine tk_ 20 rfl (still_pickF rfl ot (by first | rfl | assumption) opd_const) ?_
     refine tk_ 21 rfl (still_as rfl ot) ?_
     refine aw_ [(3, _)] [⟨b1, 24, 3, [_, _, _]⟩] ?_
     refine AD.done kr_ ?_
     refine CD.seq ?_
     refine sr_ ?_
     refine om_ ?_
     refine os_ un_ ?_
     refine nm_ [52] ?_
     refine CD.condT ot (by first | rfl | assumption) ?_
     refine sr_ ?_
     refine om_ ?_
     refine nm_ [2] ?_
     refine CD.ret ?_
     refine r1_ ?_
     refine ⟨vi ?_, rfl⟩
     try simp only [str_eq0] at *
     simp only [checkT, okWord]
     try simp_all
     try omega
    refine AStep.skip rfl (wants_F rfl rfl rfl lk (by first | rfl | assumption)) rfl ?_
    refine ts_ 18 ?_
    refine AD.one (i := 15) kr_ ?_
    refine AStep.skip rfl (wants_F rfl rfl rfl lk (by first | rfl | assumption)) rfl ?_
    refine ts_ 19 ?_
    refine tk_ 20 rfl (still_pickF rfl ot (by first | rfl | assumption) opd_const) ?_
    refine tk_ 21 rfl (still_as rfl ot) ?_
    refine aw_ [(3, _)] [⟨b1, 24, 3, [_, _, _]⟩] ?_
    refine AD.done kr_ ?_
    refine CD.seq ?_
    refine sr_ ?_
    refine om_ ?_
    refine os_ un_ ?_
    refine nm_ [52] ?_
    refine CD.condT ot (by first | rfl | assumption) ?_
    refine sr_ ?_
    refine om_ ?_
    refine nm_ [2] ?_
    refine CD.ret ?_
    refine r1_ ?_
    refine ⟨vi ?_, rfl⟩
    try simp only [str_eq0] at *
    simp only [checkT, okWord]
    try simp_all
    try omega
   refine AStep.skip rfl (wants_F rfl rfl rfl lk (by first | rfl | assumption)) rfl ?_
   refine ts_ 18 ?_
   refine AD.one (i := 14) kr_ ?_
   refine AStep.skip rfl (wants_F rfl rfl rfl lk (by first | rfl | assumption)) rfl ?_
   refine AD.one (i := 15) kr_ ?_
   refine AStep.skip rfl (wants_F rfl rfl rfl lk (by first | rfl | assumption)) rfl ?_
   refine ts_ 19 ?_
   refine tk_ 20 rfl (still_pickF rfl ot (by first | rfl | assumption) opd_const) ?_
   refine tk_ 21 rfl (still_as rfl ot) ?_
   refine aw_ [(3, _)] [⟨b1, 24, 3, [_, _, _]⟩] ?_
   refine AD.done kr_ ?_
   refine CD.seq ?_
   refine sr_ ?_
   refine om_ ?_
   refine os_ un_ ?_
   refine nm_ [52] ?_
   refine CD.condT ot (by first | rfl | assumption) ?_
   refine sr_ ?_
   refine om_ ?_
   refine nm_ [2] ?_
   refine CD.ret ?_
   refine r1_ ?_
   refine ⟨vi ?_, rfl⟩
   try simp only [str_eq0] at *
   simp only [checkT, okWord]
   try simp_all
   try omega
  have hg12' := hg12; (try simp only [V.cnd, ne_eq] at hg12')
  refine AD0.takeSkip (i := 2) rfl kr_ kr_ kr_ np_ (wants_F rfl rfl rfl lk (by first | rfl | assumption)) rfl ?_
  refine AD0.takeSkip (i := 3) rfl kr_ kr_ kr_ np_ (wants_F rfl rfl rfl lk (by first | rfl | assumption)) rfl ?_
  refine AD0.takeSkip (i := 4) rfl kr_ kr_ kr_ np_ (wants_F rfl rfl rfl lk (by first | rfl | assumption)) rfl ?_
  refine tz_ 5 rfl (still_pickF rfl ot (by first | rfl | assumption) opd_const) ?_
  refine tz_ 6 rfl (still_mv rfl ot) ?_
  refine AD0.takeSkip (i := 7) rfl kr_ kr_ kr_ np_ (wants_F rfl rfl rfl lk (by first | rfl | assumption)) rfl ?_
  refine AD0.takeSkip (i := 8) rfl kr_ kr_ kr_ np_ (wants_F rfl rfl rfl lk (by first | rfl | assumption)) rfl ?_
  refine AD0.takeSkip (i := 9) rfl kr_ kr_ kr_ np_ (wants_F rfl rfl rfl lk (by first | rfl | assumption)) rfl ?_
  refine AD0.later rfl ?_
  refine AD.one (i := 10) kr_ ?_
  refine AStep.skip rfl (wants_F rfl rfl rfl lk (by first | rfl | assumption)) rfl ?_
  refine tk_ 11 rfl (still_pickF rfl ot (by first | rfl | assumption) opd_const) ?_
  refine tk_ 12 rfl (still_mv rfl ot) ?_
  refine ts_ 13 ?_
  refine ts_ 16 ?_
  refine AD.two (i := 14) (j := 17) kr_ ?_ ?_
  ·skip
   refine AStep.skip rfl (wants_F rfl rfl rfl lk (by first | rfl | assumption)) rfl ?_
   refine AD.two (i := 15) (j := 17) kr_ ?_ ?_
   ·skip
    refine AStep.skip rfl (wants_F rfl rfl rfl lk (by first | rfl | assumption)) rfl ?_
    refine AD.one (i := 17) kr_ ?_
    refine AStep.skip rfl (wants_F rfl rfl rfl lk (by first | rfl | assumption)) rfl ?_
    refine ts_ 18 ?_
    refine ts_ 19 ?_
    refine tk_ 20 rfl (still_pickF rfl ot (by first | rfl | assumption) opd_const) ?_
    refine tk_ 21 rfl (still_as rfl ot) ?_
    refine aw_ [(3, _)] [⟨b1, 24, 3, [_, _, _]⟩] ?_
    refine AD.done kr_ ?_
    refine CD.seq ?_
    refine sr_ ?_
    refine om_ ?_
    refine os_ un_ ?_
    refine nm_ [52] ?_
    refine CD.condT ot (by first | rfl | assumption) ?_
    refine sr_ ?_
    refine om_ ?_
    refine nm_ [2] ?_
    refine CD.ret ?_
    refine r1_ ?_
    refine ⟨vi ?_, rfl⟩
    try simp only [str_eq0] at *
    simp only [checkT, okWord]
    try simp_all
    try omega
   refine AStep.skip rfl (wants_F rfl rfl rfl lk (by first | rfl | assumption)) rfl ?_
   refine ts_ 18 ?_
   refine AD.one (i := 15) kr_ ?_
   refine AStep.skip rfl (wants_F rfl rfl rfl lk (by first | rfl | assumption)) rfl ?_
   refine ts_ 19 ?_
   refine tk_ 20 rfl (still_pickF rfl ot (by first | rfl | assumption) opd_const) ?_
   refine tk_ 21 rfl (still_as rfl ot) ?_
   refine aw_ [(3, _)] [⟨b1, 24, 3, [_, _, _]⟩] ?_
   refine AD.done kr_ ?_
   refine CD.seq ?_
   refine sr_ ?_
   refine om_ ?_
   refine os_ un_ ?_
   refine nm_ [52] ?_
   refine CD.condT ot (by first | rfl | assumption) ?_
   refine sr_ ?_
   refine om_ ?_
   refine nm_ [2] ?_
   refine CD.ret ?_
   refine r1_ ?_
   refine ⟨vi ?_, rfl⟩
   try simp only [str_eq0] at *
   simp only [checkT, okWord]
   try simp_all
   try omega
  refine AStep.skip rfl (wants_F rfl rfl rfl lk (by first | rfl | assumption)) rfl ?_
  refine ts_ 18 ?_
  refine AD.one (i := 14) kr_ ?_
  refine AStep.skip rfl (wants_F rfl rfl rfl lk (by first | rfl | assumption)) rfl ?_
  refine AD.one (i := 15) kr_ ?_
  refine AStep.skip rfl (wants_F rfl rfl rfl lk (by first | rfl | assumption)) rfl ?_
  refine ts_ 19 ?_
  refine tk_ 20 rfl (still_pickF rfl ot (by first | rfl | assumption) opd_const) ?_
  refine tk_ 21 rfl (still_as rfl ot) ?_
  refine aw_ [(3, _)] [⟨b1, 24, 3, [_, _, _]⟩] ?_
  refine AD.done kr_ ?_
  refine CD.seq ?_
  refine sr_ ?_
  refine om_ ?_
  refine os_ un_ ?_
  refine nm_ [52] ?_
  refine CD.condT ot (by first | rfl | assumption) ?_
  refine sr_ ?_
  refine om_ ?_
  refine nm_ [2] ?_
  refine CD.ret ?_
  refine r1_ ?_
  refine ⟨vi ?_, rfl⟩
  try simp only [str_eq0] at *
  simp only [checkT, okWord]
  try simp_all
  try omega
 have hc0' := hc0
 (try simp only [V.cnd, ne_eq] at hc0')
 refine sr_ ?_
 refine os_ bn_ ?_
 refine om_ ?_
 refine nm_ [1, 3, 8, 32] ?_
 refine CD.cond ot (fun hc1 => ?_) (fun hc1 => ?_)
 ·have hc1' := hc1
  (try simp only [V.cnd, ne_eq] at hc1')
  refine CD.seq ?_
  refine sr_ ?_
  refine os_ (fa_ 2) ?_
  refine os_ (lb_ 0) ?_
  refine os_ bn_ ?_
  refine nm_ [1, 36] ?_
  refine CD.cond ot (fun hc2 => ?_) (fun hc2 => ?_)
  ·have hc2' := hc2
   (try simp only [V.cnd, ne_eq] at hc2')
   refine sr_ ?_
   refine om_ ?_
   refine nm_ [2] ?_
   refine CD.ret ?_
   refine r1_ ?_
   refine ⟨vi ?_, rfl⟩
   try simp only [str_eq0] at *
   simp only [checkT, okWord]
   try simp_all
   try omega
  have hc2' := hc2
  (try simp only [V.cnd, ne_eq] at hc2')
  refine CD.skip ?_
  refine CD.region ?_
  refine os_ (fa_ 1) ?_
  refine os_ (lb_ 0) ?_
  refine os_ bn_ ?_
  refine om_ ?_
  refine nm_ [3] ?_
  refine CD.seq ?_
  refine sr_ ?_
  refine om_ ?_
  refine os_ un_ ?_
  refine nm_ [52] ?_
  refine CD.cond ot (fun hc5 => ?_) (fun hc5 => ?_)
  ·have hc5' := hc5
   (try simp only [V.cnd, ne_eq] at hc5')
   refine sr_ ?_
   refine om_ ?_
   refine nm_ [2] ?_
   refine CD.ret ?_
   refine r1_ ?_
   refine ⟨vi ?_, rfl⟩
   try simp only [str_eq0] at *
   simp only [checkT, okWord]
   try simp_all
   try omega
  have hc5' := hc5
  (try simp only [V.cnd, ne_eq] at hc5')
  refine CD.skip ?_
  refine sr_ ?_
  refine om_ ?_
  refine nm_ [2] ?_
  refine CD.ret ?_
  refine r1_ ?_
  refine ⟨vi ?_, rfl⟩
  try simp only [str_eq0] at *
  simp only [checkT, okWord]
  try simp_all
  try omega
 have hc1' := hc1
 (try simp only [V.cnd, ne_eq] at hc1')
 refine sr_ ?_
 refine os_ bn_ ?_
 refine om_ ?_
 refine nm_ [1, 3, 8, 40] ?_
 refine CD.cond ot (fun hc3 => ?_) (fun hc3 => ?_)
 ·have hc3' := hc3
  (try simp only [V.cnd, ne_eq] at hc3')
  refine CD.skip ?_
  refine CD.seq ?_
  refine sr_ ?_
  refine om_ ?_
  refine os_ un_ ?_
  refine nm_ [52] ?_
  refine CD.cond ot (fun hc5 => ?_) (fun hc5 => ?_)
  ·have hc5' := hc5
   (try simp only [V.cnd, ne_eq] at hc5')
   refine sr_ ?_
   refine om_ ?_
   refine nm_ [2] ?_
   refine CD.ret ?_
   refine r1_ ?_
   refine ⟨vi ?_, rfl⟩
   try simp only [str_eq0] at *
   simp only [checkT, okWord]
   try simp_all
   try omega
  have hc5' := hc5
  (try simp only [V.cnd, ne_eq] at hc5')
  refine CD.skip ?_
  refine sr_ ?_
  refine om_ ?_
  refine nm_ [2] ?_
  refine CD.ret ?_
  refine r1_ ?_
  refine ⟨vi ?_, rfl⟩
  try simp only [str_eq0] at *
  simp only [checkT, okWord]
  try simp_all
  try omega
 have hc3' := hc3
 (try simp only [V.cnd, ne_eq] at hc3')
 refine sr_ ?_
 refine os_ bn_ ?_
 refine om_ ?_
 refine nm_ [1, 3, 42] ?_
 refine CD.cond ot (fun hc4 => ?_) (fun hc4 => ?_)
 ·have hc4' := hc4
  (try simp only [V.cnd, ne_eq] at hc4')
  refine CD.draw (bks _) kr_ (fun _ h => h) ?_
  refine tz_ 0 rfl (still_mv rfl ot) ?_
  refine tz_ 1 rfl (still_mv rfl ot) ?_
  refine AD0.split (t := 45) lk (fun hg45 => ?_) (fun hg45 => ?_)
  ·have hg45' := hg45; (try simp only [V.cnd, ne_eq] at hg45')
   refine AD0.take (i := 2) rfl kr_ kr_ kr_ np_ wt_ rfl (still_rs (l := 0) (h := 0) rfl opd_glob trivial trivial (by first | exact sl_tabG (ls := marksL) (g := cS) hm rfl rfl Tryd.runUnderlying85 Tryd.sizeOf9 rfl (by decide) (by decide))) (by exact trivial) ?_
   refine AD0.take (i := 3) rfl kr_ kr_ kr_ np_ wt_ rfl (still_r1 (mk := fun y => Op.fieldAddr 24 y 1) rfl ot (by first | exact fa_ptr (off := 1) Tryd.runUnderlying24 rfl Tryd.sizeOf9 rfl | exact fa_iptr (off := 1) Tryd.runUnderlying24 rfl Tryd.sizeOf9 rfl)) (by exact trivial) ?_
   refine AD0.take (i := 4) rfl kr_ kr_ kr_ np_ wt_ rfl (still_r1 (mk := Op.load 9) rfl ot (by first | exact ld_blk (k := 0) rfl rfl Tryd.isAgg9 rfl | exact ld_i Tryd.isAgg9 rfl)) (by first | exact trivial | exact safe_blk (k0 := 0) rfl rfl) ?_
   refine AD0.later rfl ?_
   refine AD.one (i := 5) kr_ ?_
   refine AStep.callP rfl wt_ rfl rfl rfl Tryd.call42 (contains_vp marksL t.s (by decide)) ⟨ot, ot, trivial⟩ ?_
   refine tk_ 6 rfl (still_pickT rfl ot (by first | rfl | assumption) ot) ?_
   refine tk_ 7 rfl (still_as rfl ot) ?_
   refine aw_ [(3, _)] [⟨b1, 24, 3, [_, _, _]⟩] ?_
   refine AD.done kr_ ?_
   refine CD.seq ?_
   refine sr_ ?_
   refine om_ ?_
   refine os_ un_ ?_
   refine nm_ [52] ?_
   refine CD.cond ot (fun hc5 => ?_) (fun hc5 => ?_)
   ·have hc5' := hc5
    (try simp only [V.cnd, ne_eq] at hc5')
    refine sr_ ?_
    refine om_ ?_
    refine nm_ [2] ?_
    refine CD.ret ?_
    refine r1_ ?_
    refine ⟨vi ?_, rfl⟩
    try simp only [str_eq0] at *
    simp only [checkT, okWord]
    try simp_all
    try omega
   have hc5' := hc5
   (try simp only [V.cnd, ne_eq] at hc5')
   refine CD.skip ?_
   refine sr_ ?_
   refine om_ ?_
   refine nm_ [2] ?_
   refine CD.ret ?_
   refine r1_ ?_
   refine ⟨vi ?_, rfl⟩
   try simp only [str_eq0] at *
   simp only [checkT, okWord]
   try simp_all
   try omega
  have hg45' := hg45; (try simp only [V.cnd, ne_eq] at hg45')
  refine AD0.takeSkip (i := 2) rfl kr_ kr_ kr_ np_ (wants_F rfl rfl rfl lk (by first | rfl | assumption)) rfl ?_
  refine AD0.takeSkip (i := 3) rfl kr_ kr_ kr_ np_ (wants_F rfl rfl rfl lk (by first | rfl | assumption)) rfl ?_
  refine AD0.takeSkip (i := 4) rfl kr_ kr_ kr_ np_ (wants_F rfl rfl rfl lk (by first | rfl | assumption)) rfl ?_
  refine AD0.later rfl ?_
  refine AD.one (i := 5) kr_ ?_
  refine AStep.skip rfl (wants_F rfl rfl rfl lk (by first | rfl | assumption)) rfl ?_
  refine tk_ 6 rfl (still_pickF rfl ot (by first | rfl | assumption) opd_const) ?_
  refine tk_ 7 rfl (still_as rfl ot) ?_
  refine aw_ [(3, _)] [⟨b1, 24, 3, [_, _, _]⟩] ?_
  refine AD.done kr_ ?_
  refine CD.seq ?_
  refine sr_ ?_
  refine om_ ?_
  refine os_ un_ ?_
  refine nm_ [52] ?_
  refine CD.condT ot (by first | rfl | assumption) ?_
  refine sr_ ?_
  refine om_ ?_
  refine nm_ [2] ?_
  refine CD.ret ?_
  refine r1_ ?_
  refine ⟨vi ?_, rfl⟩
  try simp only [str_eq0] at *
  simp only [checkT, okWord]
  try simp_all
  try omega
 have hc4' := hc4
 (try simp only [V.cnd, ne_eq] at hc4')
 refine sr_ ?_
 refine om_ ?_
 refine nm_ [2] ?_
 refine CD.ret ?_
 refine r1_ ?_
 refine ⟨vi ?_, rfl⟩
 try simp only [str_eq0] at *
 simp only [checkT, okWord]
 try simp_all
 try omega

theorem places24_Nm1 : ∀ w, ((#[{ name := "Kind", type := 3, offset := 0, embedded := false, tag := "", pkgPath := "", byteOffset := 0 }, { name := "Text", type := 9, offset := 1, embedded := false, tag := "", pkgPath := "", byteOffset := 8 }, { name := "Int", type := 3, offset := 2, embedded := false, tag := "", pkgPath := "", byteOffset := 24 }] : Array Field).mapM fun f => do pure (f.offset, ← sizeOf f.type) : Sem (Array (Nat × Nat))).run Tryd.prog w = .ok #[(0, 1), (1, 1), (2, 1)] w := fun w => by simp [Tryd.sizeOf3, Tryd.sizeOf9]

set_option maxHeartbeats 4000000 in
set_option maxRecDepth 100000 in
theorem name_vp (hm : (0, marksC) ∈ G) (hw : (2, wordsC) ∈ G) (s : ByteArray) (hs : s.size ≤ maxLen) : VP Tryd.prog G 61 [.v (.string s)] (.v (.int .i64 (nameF s))) := by
 refine VC.body Tryd.func61 rfl Tryd.ntmps61 le_ fun X0 w0 S00 => ?_
 refine sr_ ?_
 refine om_ ?_
 refine nm_ [0] ?_
 refine CD.seq ?_
 refine sr_ ?_
 refine om_ ?_
 refine os_ (still_slen rfl rfl ot Tryd.runUnderlying9) ?_
 refine os_ bn_ ?_
 refine on_ [(0, _), (5, _)] [] ?_
 refine CD.cond ot (fun hc0 => ?_) (fun hc0 => ?_)
 ·have hc0' := hc0
  (try simp only [V.cnd, ne_eq] at hc0')
  refine sr_ ?_
  refine om_ ?_
  refine nm_ [2] ?_
  refine CD.ret ?_
  refine r1_ ?_
  refine ⟨vi ?_, rfl⟩
  try simp only [check_word] at *
  simp only [nameF]
  first | (rw [if_pos (by omega)]; done) | (rw [if_neg (by omega)]; cases h1 : okWord s <;> cases h2 : wordsL.any (eqS s) <;> simp_all)
 have hc0' := hc0
 (try simp only [V.cnd, ne_eq] at hc0')
 refine CD.skip ?_
 refine CD.seq ?_
 refine sr_ ?_
 refine om_ ?_
 refine os_ (still_bld (pl := [(0, _), (1, _)]) (ds := [_, _, _]) rfl Tryd.zeroValue24 Tryd.runUnderlying24 places24_Nm1 ⟨rfl, opd_const, rfl, ot, trivial⟩ rfl rfl) ?_
 refine oc_ Tryd.call23 (check_vp hm ⟨1, s, 0⟩ hs) ?_
 refine os_ bn_ ?_
 refine om_ ?_
 refine OD.split (t := 10) lk (fun hg10 => ?_) (fun hg10 => ?_)
 ·have hg10' := hg10; (try simp only [V.cnd, ne_eq] at hg10')
  refine sk_ ?_
  refine sk_ ?_
  refine sk_ ?_
  refine os_ pkT_ ?_
  refine on_ [(14, _)] [] ?_
  refine CD.condT ot (by first | rfl | assumption) ?_
  refine sr_ ?_
  refine om_ ?_
  refine nm_ [2] ?_
  refine CD.ret ?_
  refine r1_ ?_
  refine ⟨vi ?_, rfl⟩
  try simp only [check_word] at *
  simp only [nameF]
  first | (rw [if_pos (by omega)]; done) | (rw [if_neg (by omega)]; cases h1 : okWord s <;> cases h2 : wordsL.any (eqS s) <;> simp_all)
 have hg10' := hg10; (try simp only [V.cnd, ne_eq] at hg10')
 refine OD.still wt_ rfl (still_rs (l := 0) (h := 0) rfl opd_glob trivial trivial (by first | exact sl_tabG (ls := wordsL) (g := cS) hw rfl rfl Tryd.runUnderlying122 Tryd.sizeOf9 rfl (by decide) (by decide))) ?_
 refine om_ ?_
 refine OD.callP wt_ rfl rfl rfl Tryd.call42 (contains_vp wordsL s (by decide)) ⟨ot, ot, trivial⟩ ?_
 refine os_ pkF_ ?_
 refine on_ [(14, _)] [] ?_
 refine CD.cond ot (fun hc1 => ?_) (fun hc1 => ?_)
 ·have hc1' := hc1
  (try simp only [V.cnd, ne_eq] at hc1')
  refine sr_ ?_
  refine om_ ?_
  refine nm_ [2] ?_
  refine CD.ret ?_
  refine r1_ ?_
  refine ⟨vi ?_, rfl⟩
  try simp only [check_word] at *
  simp only [nameF]
  first | (rw [if_pos (by omega)]; done) | (rw [if_neg (by omega)]; cases h1 : okWord s <;> cases h2 : wordsL.any (eqS s) <;> simp_all)
 have hc1' := hc1
 (try simp only [V.cnd, ne_eq] at hc1')
 refine CD.skip ?_
 refine sr_ ?_
 refine om_ ?_
 refine nm_ [2] ?_
 refine CD.ret ?_
 refine r1_ ?_
 refine ⟨vi ?_, rfl⟩
 try simp only [check_word] at *
 simp only [nameF]
 first | (rw [if_pos (by omega)]; done) | (rw [if_neg (by omega)]; cases h1 : okWord s <;> cases h2 : wordsL.any (eqS s) <;> simp_all)

def wb (c : UInt8) : UInt8 := UInt8.ofNat (97 + c.toNat % 26)
theorem wb_nat (c : UInt8) : (wb c).toNat = 97 + c.toNat % 26 := by
 have : c.toNat % 26 < 26 := Nat.mod_lt _ (by decide)
 unfold wb
 rw [UInt8.toNat_ofNat']
 exact Nat.mod_eq_of_lt (by omega)
theorem wb_wrap (c : UInt8) : IntKind.u8.wrap (97 + (c.toNat : Int).tmod 26) = ((wb c).toNat : Int) := by
 rw [wb_nat]
 have h1 : (c.toNat : Int).tmod 26 = ((c.toNat % 26 : Nat) : Int) := rfl
 have : c.toNat % 26 < 26 := Nat.mod_lt _ (by decide)
 rw [h1]
 have e : (97 + ((c.toNat % 26 : Nat) : Int)) = ((97 + c.toNat % 26 : Nat) : Int) := by omega
 rw [e]
 show ((97 + c.toNat % 26 : Nat) : Int) % 256 = _
 omega
def wordL (s : ByteArray) : List UInt8 := if s.size = 0 then [120] else (s.data.toList.take 6).map wb
def wordF (s : ByteArray) : ByteArray := ⟨(wordL s).toArray⟩
theorem word_row {s : ByteArray} {k : Nat} (h : k < s.size) : (s.data.toList.take k).map wb ++ [wb (byteAt s k)] = (s.data.toList.take (k + 1)).map wb := by
 have h' : k < s.data.toList.length := by rw [str_len]; exact h
 rw [List.take_succ_eq_append_getElem h', List.map_append, byteAt_get h']; rfl
theorem word_end {s : ByteArray} {k : Nat} (hk : k ≤ s.size) (h : k = s.size ∨ 6 ≤ k) (h6 : k ≤ 6) : (s.data.toList.take k) = s.data.toList.take 6 := by
 rcases h with h | h
 ·rw [List.take_of_length_le (by rw [str_len]; omega), List.take_of_length_le (by rw [str_len]; omega)]
 rw [show k = 6 by omega]

theorem info5_Nm1 : (Tryd.prog.info? 5).map (fun i => (i.zero, i.size, i.bytes)) = some (some (.int .u8 0), 1, 1) := by kernel_rfl

set_option maxHeartbeats 4000000 in
set_option maxRecDepth 100000 in
theorem word_vp (s : ByteArray) (hs : s.size ≤ maxLen) : VP Tryd.prog G 28 [.v (.string s)] (.v (.string (wordF s))) := by
 refine VC.body Tryd.func28 rfl Tryd.ntmps28 le_ fun X0 w0 S00 => ?_
 simp only [maxLen] at hs
 refine sr_ ?_
 refine om_ ?_
 refine nm_ [0] ?_
 refine sr_ ?_
 refine om_ ?_
 refine nm_ [0, 3] ?_
 refine CD.seq ?_
 refine sr_ ?_
 refine om_ ?_
 refine nm_ [0, 3, 4] ?_
 refine CD.block ?_
 refine lp_ (fun (gh__ : Nat × Option Addr × Nat × List Blk) y__ => match gh__ with | (k, adb, cpb, Sb) => (k ≤ s.size) ∧ (k ≤ 6) ∧ (OwnL 5 1 (((s.data.toList.take k).map wb).flatMap cB) ((s.data.toList.take k).map wb).length adb cpb Sb) ∧ y__ = (⟨28, [(0, .v (.string s)), (3, .v (.slice adb ((s.data.toList.take k).map wb).length cpb)), (4, .v (.int .i64 (k : Nat)))], (Sb)⟩ : St)) (fun (gh__ : Nat × Option Addr × Nat × List Blk) => match gh__ with | (k, adb, cpb, Sb) => s.size - k) (0, none, 0, []) ⟨(Nat.zero_le _), (Nat.zero_le _), (OwnL.cast ownL_nil (by first | rfl | simp)), rfl⟩ (Wk.asS rfl su_ (by repeat (first | exact trivial | refine ⟨(by (repeat (first | exact look_hit | (apply look_at; focus (first | rfl | (simp; done) | (congr 2; omega) | (apply row_eq; exact word_row hks) | (apply row_eq; simp; done))) | (apply look_miss; focus rfl))); done), ?_⟩))) ?_
 rintro ⟨k, adb, cpb, Sb⟩ _ ⟨hk, h6, hob, rfl⟩
 refine CD.seq ?_
 refine sr_ ?_
 refine om_ ?_
 refine om_ ?_
 refine os_ (still_slen rfl rfl ot Tryd.runUnderlying9) ?_
 refine os_ bn_ ?_
 refine om_ ?_
 refine OD.split (t := 9) lk (fun hg9 => ?_) (fun hg9 => ?_)
 ·have hg9' := hg9; (try simp only [V.cnd, ne_eq] at hg9')
  refine om_ ?_
  refine os_ bn_ ?_
  refine os_ pkT_ ?_
  refine OD.wk (Wk.as_ (n := 28) (l' := [(0, _), (3, _), (4, _), (12, _)]) (S' := (Sb)) rfl rfl sl_) ?_
  refine OD.nil ?_
  refine CD.cond ot (fun hc0 => ?_) (fun hc0 => ?_)
  ·have hc0' := hc0
   (try simp only [V.cnd, ne_eq] at hc0')
   refine CD.skip ?_
   refine CD.seq ?_
   refine CD.block ?_
   refine CD.region ?_
   refine om_ ?_
   refine om_ ?_
   have hks : k < s.size := by omega
   have hkc : s[k]? = some (byteAt s k) := str_at hks
   refine om_ ?_
   refine os_ (still_sidx rfl ot ot Tryd.runUnderlying9 rfl (by first | assumption | rfl)) ?_
   refine os_ (still_bin rfl ot opd_const (bin_rem (by omega))) ?_
   refine os_ (still_bin (r := .int .u8 ((wb (byteAt s k)).toNat : Int)) rfl opd_const ot (bin_add (wb_wrap _))) ?_
   refine ob_ (numD 0 [_]) [.int .u8 0] [_] Tryd.zeroValue5 Tryd.runUnderlying62 Tryd.sizeOf5 (fun b21 => ?_)
   refine og_ 0 21 1 1 ?_
   refine OD.appendG (ls := ((s.data.toList.take k).map wb)) (new := [wb (byteAt s k)]) (Sq := Sb) cB_len cB_one wp_ rfl rfl Tryd.underlying62 info5_Nm1 rfl (by decide) ot hob (perm_r11 (A := [])) ot (by simp) (by simp [maxLen]; omega) (by simp; omega) (fun b22 cp22 h122 h222 => ?_)
   refine OD.perm (perm_q11 (S1 := [⟨b22, 5, cp22 * 1, List.flatMap cB (((s.data.toList.take k).map wb) ++ [wb (byteAt s k)])⟩]) (A := [])) ?_
   refine om_ ?_
   refine OD.wk (Wk.as_ (n := 28) (l' := [(0, _), (3, _), (4, _)]) (S' := ([⟨b22, 5, cp22 * 1, List.flatMap cB (((s.data.toList.take k).map wb) ++ [wb (byteAt s k)])⟩])) rfl rfl sl_) ?_
   refine OD.nil ?_
   refine CD.region ?_
   refine om_ ?_
   refine os_ bn_ ?_
   refine om_ ?_
   refine nm_ [0, 3, 4] ?_
   refine ⟨((k + 1), (some ⟨b22, 0, none⟩), cp22, [⟨b22, 5, cp22 * 1, List.flatMap cB (((s.data.toList.take k).map wb) ++ [wb (byteAt s k)])⟩]), _, ?_, ?_, (by omega), (by omega), (OwnL.cast (ownL_row h122 h222) (by exact word_row hks)), rfl⟩
   ·first | omega | (simp only []; omega)
   exact Wk.asS (n := 28) rfl su_ (by repeat (first | exact trivial | refine ⟨(by (repeat (first | exact look_hit | (apply look_at; focus (first | rfl | (simp; done) | (congr 2; omega) | (apply row_eq; exact word_row hks) | (apply row_eq; simp; done))) | (apply look_miss; focus rfl))); done), ?_⟩))
  have hc0' := hc0
  (try simp only [V.cnd, ne_eq] at hc0')
  refine CD.exit ?_
  refine CD.seq ?_
  refine sr_ ?_
  refine om_ ?_
  refine os_ ln_ ?_
  refine os_ bn_ ?_
  refine nm_ [3, 25] ?_
  refine CD.cond ot (fun hc1 => ?_) (fun hc1 => ?_)
  ·have hc1' := hc1
   (try simp only [V.cnd, ne_eq] at hc1')
   refine sr_ ?_
   refine om_ ?_
   refine nm_ [2] ?_
   refine CD.ret ?_
   refine r1_ ?_
   refine ⟨vs ?_, rfl⟩
   have hk6 : k = s.size ∨ 6 ≤ k := by omega
   have hmin : min k s.size = k := Nat.min_eq_left hk
   simp only [List.length_map, List.length_take, str_len, hmin] at *
   unfold wordF wordL
   first | (rw [if_pos (by omega)]; done) | (rw [if_neg (by omega), word_end hk hk6 h6])
  have hc1' := hc1
  (try simp only [V.cnd, ne_eq] at hc1')
  refine CD.skip ?_
  refine sr_ ?_
  refine om_ ?_
  refine OD.giveL (t := 26) (Sq := Sb) lk hob (fm_len cB_len _) (perm_r11 (A := [])) ?_
  first | refine os_ (still_ofBytes rfl ot Tryd.underlying62 Tryd.underlying5 Tryd.underlying9) ?_ | refine OD.still wp_ rfl (still_ofBytesF rfl ot Tryd.underlying62 Tryd.underlying5 Tryd.underlying9) ?_
  refine om_ ?_
  refine on_ [(2, _)] [] ?_
  refine CD.ret ?_
  refine ⟨.inr rfl, rt_ Tryd.results28 ?_⟩
  refine ⟨vs ?_, rfl⟩
  have hk6 : k = s.size ∨ 6 ≤ k := by omega
  have hmin : min k s.size = k := Nat.min_eq_left hk
  simp only [List.length_map, List.length_take, str_len, hmin] at *
  unfold wordF wordL
  first | (rw [if_pos (by omega)]; done) | (rw [if_neg (by omega), word_end hk hk6 h6])
 have hg9' := hg9; (try simp only [V.cnd, ne_eq] at hg9')
 refine sk_ ?_
 refine sk_ ?_
 refine os_ pkF_ ?_
 refine OD.wk (Wk.as_ (n := 28) (l' := [(0, _), (3, _), (4, _), (12, _)]) (S' := (Sb)) rfl rfl sl_) ?_
 refine OD.nil ?_
 refine CD.condF ot (by first | rfl | assumption) ?_
 refine CD.exit ?_
 refine CD.seq ?_
 refine sr_ ?_
 refine om_ ?_
 refine os_ ln_ ?_
 refine os_ bn_ ?_
 refine nm_ [3, 25] ?_
 refine CD.cond ot (fun hc1 => ?_) (fun hc1 => ?_)
 ·have hc1' := hc1
  (try simp only [V.cnd, ne_eq] at hc1')
  refine sr_ ?_
  refine om_ ?_
  refine nm_ [2] ?_
  refine CD.ret ?_
  refine r1_ ?_
  refine ⟨vs ?_, rfl⟩
  have hk6 : k = s.size ∨ 6 ≤ k := by omega
  have hmin : min k s.size = k := Nat.min_eq_left hk
  simp only [List.length_map, List.length_take, str_len, hmin] at *
  unfold wordF wordL
  first | (rw [if_pos (by omega)]; done) | (rw [if_neg (by omega), word_end hk hk6 h6])
 have hc1' := hc1
 (try simp only [V.cnd, ne_eq] at hc1')
 refine CD.skip ?_
 refine sr_ ?_
 refine om_ ?_
 refine OD.giveL (t := 26) (Sq := Sb) lk hob (fm_len cB_len _) (perm_r11 (A := [])) ?_
 first | refine os_ (still_ofBytes rfl ot Tryd.underlying62 Tryd.underlying5 Tryd.underlying9) ?_ | refine OD.still wp_ rfl (still_ofBytesF rfl ot Tryd.underlying62 Tryd.underlying5 Tryd.underlying9) ?_
 refine om_ ?_
 refine on_ [(2, _)] [] ?_
 refine CD.ret ?_
 refine ⟨.inr rfl, rt_ Tryd.results28 ?_⟩
 refine ⟨vs ?_, rfl⟩
 have hk6 : k = s.size ∨ 6 ≤ k := by omega
 have hmin : min k s.size = k := Nat.min_eq_left hk
 simp only [List.length_map, List.length_take, str_len, hmin] at *
 unfold wordF wordL
 first | (rw [if_pos (by omega)]; done) | (rw [if_neg (by omega), word_end hk hk6 h6])

abbrev MarksTab (w : World) : Prop := Tab.TabAt w 0 marksC

end Go.Proofs.YtjgekbmahhhokaaDoor.Nm

namespace Go.Proofs.YtjgekbmahhhokaaDoor.Pk
end Go.Proofs.YtjgekbmahhhokaaDoor.Pk


namespace Go.Proofs.YtjgekbmahhhokaaDoor.Nm
open Go.RowKit V Pk
set_option linter.unusedVariables false
set_option linter.unusedSimpArgs false

variable {G : List (Nat × List Value)}


abbrev WordsTab (w : World) : Prop := Tab.TabAt w 2 wordsC
end Go.Proofs.YtjgekbmahhhokaaDoor.Nm

namespace Go.Proofs.YtjgekbmahhhokaaDoor.Vl
open Go.RowKit V Pk
set_option linter.unusedVariables false
set_option linter.unusedSimpArgs false

structure Vl where
 k : Int
 n : Int
 s : ByteArray
def cV (v : Vl) : List D := [.v (.int .i64 v.k), .v (.int .i64 v.n), .v (.string v.s)]
theorem cV_len (v : Vl) : (cV v).length = 3 := rfl
theorem cV_one (v : Vl) : (cV v).all V.one = true := rfl
structure Vl.Ok (v : Vl) : Prop where
 k1 : -9223372036854775808 ≤ v.k
 k2 : v.k ≤ 9223372036854775807
 n1 : -9223372036854775808 ≤ v.n
 n2 : v.n ≤ 9223372036854775807
 s : v.s.size ≤ maxLen
def noVl : Vl := ⟨0, 0, ⟨#[]⟩⟩
def checkV (v : Vl) : Int :=
 if v.k = 0 then (if v.n ≠ 0 ∨ v.s.size ≠ 0 then 6 else 0)
 else if v.k = 1 then (if v.n < 0 ∨ v.n > 1 ∨ v.s.size ≠ 0 then 6 else 0)
 else if v.k = 2 then (if v.s.size ≠ 0 then 6 else 0)
 else if v.k = 3 then (if v.n ≠ 0 then 6 else if v.s.size > 20 then 1 else 0)
 else 2
theorem eqs37 (x y : Vl) : ∀ w, (Op.equalIn 10000 37 (.agg [.int .i64 x.k, .int .i64 x.n, .string x.s].toArray) (.agg [.int .i64 y.k, .int .i64 y.n, .string y.s].toArray)).run Tryd.prog w = .ok (x.k == y.k && (x.n == y.n && x.s.toList == y.s.toList)) w := fun w => by
 have hS : Tryd.prog.underlying 37 = some (.struct (Tryd.prog.fieldsOf 37)) := by kernel_rfl
 have hp : Tryd.prog.stoodInHeld 37 = false := by kernel_rfl
 rw [show (10000 : Nat) = 9999 + 1 from rfl, run_equalIn_agg w 9999 37 _ _ hS hp]
 have u := Tryd.underlying37
 have u3 := Tryd.underlying3
 have u9 := Tryd.underlying9
 have a3 := Tryd.isAgg3
 have a9 := Tryd.isAgg9
 have z3 := Tryd.sizeOf3
 have z9 := Tryd.sizeOf9
 simp only [Program.fieldsOf, u]
 go_simp
 by_cases h1 : x.k = y.k <;> by_cases h2 : x.n = y.n <;> by_cases h3 : x.s.toList = y.s.toList <;> simp [h1, h2, h3]
variable {G : List (Nat × List Value)}

set_option maxHeartbeats 4000000 in
set_option maxRecDepth 100000 in
theorem check_vp (v : Vl) : VP Tryd.prog G 92 [.agg (cV v)] (.v (.int .i64 (checkV v))) := by
 refine VC.body Tryd.func92 rfl Tryd.ntmps92 le_ fun X0 w0 S00 => ?_
 unfold cV
 refine sr_ ?_
 refine OD.box (ds := [_, _, _]) wp_ rfl rfl ot rfl rfl (fun b1 => ?_)
 refine om_ ?_
 refine on_ [(1, _)] [⟨b1, 37, 3, [_, _, _]⟩] ?_
 refine CD.seq ?_
 refine sr_ ?_
 refine os_ (fa_ 0) ?_
 refine os_ (lb_ 0) ?_
 refine nm_ [1, 4] ?_
 refine CD.block ?_
 refine sr_ ?_
 refine os_ bn_ ?_
 refine om_ ?_
 refine nm_ [1, 4, 5] ?_
 refine CD.cond ot (fun hc0 => ?_) (fun hc0 => ?_)
 ·have hc0' := hc0
  (try simp only [V.cnd, ne_eq] at hc0')
  refine sr_ ?_
  refine os_ (fa_ 1) ?_
  refine os_ (lb_ 0) ?_
  refine os_ bn_ ?_
  refine om_ ?_
  refine OD.split (t := 10) lk (fun hg10 => ?_) (fun hg10 => ?_)
  ·have hg10' := hg10; (try simp only [V.cnd, ne_eq] at hg10')
   refine sk_ ?_
   refine sk_ ?_
   refine sk_ ?_
   refine os_ pkT_ ?_
   refine nm_ [14] ?_
   refine CD.condT ot (by first | rfl | assumption) ?_
   refine sr_ ?_
   refine om_ ?_
   refine nm_ [2] ?_
   refine CD.ret ?_
   refine r1_ ?_
   refine ⟨vi ?_, rfl⟩
   try simp only [str_eq0] at *
   unfold checkV
   simp_all
   try omega
  have hg10' := hg10; (try simp only [V.cnd, ne_eq] at hg10')
  refine os_ (fa_ 2) ?_
  refine os_ (lb_ 0) ?_
  refine os_ bn_ ?_
  refine os_ pkF_ ?_
  refine nm_ [14] ?_
  refine CD.cond ot (fun hc1 => ?_) (fun hc1 => ?_)
  ·have hc1' := hc1
   (try simp only [V.cnd, ne_eq] at hc1')
   refine sr_ ?_
   refine om_ ?_
   refine nm_ [2] ?_
   refine CD.ret ?_
   refine r1_ ?_
   refine ⟨vi ?_, rfl⟩
   try simp only [str_eq0] at *
   unfold checkV
   simp_all
   try omega
  have hc1' := hc1
  (try simp only [V.cnd, ne_eq] at hc1')
  refine CD.skip ?_
  refine sr_ ?_
  refine om_ ?_
  refine nm_ [2] ?_
  refine CD.ret ?_
  refine r1_ ?_
  refine ⟨vi ?_, rfl⟩
  try simp only [str_eq0] at *
  unfold checkV
  simp_all
  try omega
 have hc0' := hc0
 (try simp only [V.cnd, ne_eq] at hc0')
 refine sr_ ?_
 refine os_ bn_ ?_
 refine om_ ?_
 refine nm_ [1, 4, 15] ?_
 refine CD.cond ot (fun hc2 => ?_) (fun hc2 => ?_)
 ·have hc2' := hc2
  (try simp only [V.cnd, ne_eq] at hc2')
  refine sr_ ?_
  refine os_ (fa_ 1) ?_
  refine os_ (lb_ 0) ?_
  refine os_ bn_ ?_
  refine om_ ?_
  refine OD.split (t := 20) lk (fun hg20 => ?_) (fun hg20 => ?_)
  ·have hg20' := hg20; (try simp only [V.cnd, ne_eq] at hg20')
   refine sk_ ?_
   refine sk_ ?_
   refine sk_ ?_
   refine os_ pkT_ ?_
   refine om_ ?_
   refine sk_ ?_
   refine sk_ ?_
   refine sk_ ?_
   refine os_ pkT_ ?_
   refine nm_ [29] ?_
   refine CD.condT ot (by first | rfl | assumption) ?_
   refine sr_ ?_
   refine om_ ?_
   refine nm_ [2] ?_
   refine CD.ret ?_
   refine r1_ ?_
   refine ⟨vi ?_, rfl⟩
   try simp only [str_eq0] at *
   unfold checkV
   simp_all
   try omega
  have hg20' := hg20; (try simp only [V.cnd, ne_eq] at hg20')
  refine os_ (fa_ 1) ?_
  refine os_ (lb_ 0) ?_
  refine os_ bn_ ?_
  refine os_ pkF_ ?_
  refine om_ ?_
  refine OD.split (t := 25) lk (fun hg25 => ?_) (fun hg25 => ?_)
  ·have hg25' := hg25; (try simp only [V.cnd, ne_eq] at hg25')
   refine sk_ ?_
   refine sk_ ?_
   refine sk_ ?_
   refine os_ pkT_ ?_
   refine nm_ [29] ?_
   refine CD.condT ot (by first | rfl | assumption) ?_
   refine sr_ ?_
   refine om_ ?_
   refine nm_ [2] ?_
   refine CD.ret ?_
   refine r1_ ?_
   refine ⟨vi ?_, rfl⟩
   try simp only [str_eq0] at *
   unfold checkV
   simp_all
   try omega
  have hg25' := hg25; (try simp only [V.cnd, ne_eq] at hg25')
  refine os_ (fa_ 2) ?_
  refine os_ (lb_ 0) ?_
  refine os_ bn_ ?_
  refine os_ pkF_ ?_
  refine nm_ [29] ?_
  refine CD.cond ot (fun hc3 => ?_) (fun hc3 => ?_)
  ·have hc3' := hc3
   (try simp only [V.cnd, ne_eq] at hc3')
   refine sr_ ?_
   refine om_ ?_
   refine nm_ [2] ?_
   refine CD.ret ?_
   refine r1_ ?_
   refine ⟨vi ?_, rfl⟩
   try simp only [str_eq0] at *
   unfold checkV
   simp_all
   try omega
  have hc3' := hc3
  (try simp only [V.cnd, ne_eq] at hc3')
  refine CD.skip ?_
  refine sr_ ?_
  refine om_ ?_
  refine nm_ [2] ?_
  refine CD.ret ?_
  refine r1_ ?_
  refine ⟨vi ?_, rfl⟩
  try simp only [str_eq0] at *
  unfold checkV
  simp_all
  try omega
 have hc2' := hc2
 (try simp only [V.cnd, ne_eq] at hc2')
 refine sr_ ?_
 refine os_ bn_ ?_
 refine om_ ?_
 refine nm_ [1, 4, 30] ?_
 refine CD.cond ot (fun hc4 => ?_) (fun hc4 => ?_)
 ·have hc4' := hc4
  (try simp only [V.cnd, ne_eq] at hc4')
  refine sr_ ?_
  refine os_ (fa_ 2) ?_
  refine os_ (lb_ 0) ?_
  refine os_ bn_ ?_
  refine nm_ [34] ?_
  refine CD.cond ot (fun hc5 => ?_) (fun hc5 => ?_)
  ·have hc5' := hc5
   (try simp only [V.cnd, ne_eq] at hc5')
   refine sr_ ?_
   refine om_ ?_
   refine nm_ [2] ?_
   refine CD.ret ?_
   refine r1_ ?_
   refine ⟨vi ?_, rfl⟩
   try simp only [str_eq0] at *
   unfold checkV
   simp_all
   try omega
  have hc5' := hc5
  (try simp only [V.cnd, ne_eq] at hc5')
  refine CD.skip ?_
  refine sr_ ?_
  refine om_ ?_
  refine nm_ [2] ?_
  refine CD.ret ?_
  refine r1_ ?_
  refine ⟨vi ?_, rfl⟩
  try simp only [str_eq0] at *
  unfold checkV
  simp_all
  try omega
 have hc4' := hc4
 (try simp only [V.cnd, ne_eq] at hc4')
 refine sr_ ?_
 refine os_ bn_ ?_
 refine om_ ?_
 refine nm_ [1, 35] ?_
 refine CD.cond ot (fun hc6 => ?_) (fun hc6 => ?_)
 ·have hc6' := hc6
  (try simp only [V.cnd, ne_eq] at hc6')
  refine CD.seq ?_
  refine sr_ ?_
  refine os_ (fa_ 1) ?_
  refine os_ (lb_ 0) ?_
  refine os_ bn_ ?_
  refine nm_ [1, 39] ?_
  refine CD.cond ot (fun hc7 => ?_) (fun hc7 => ?_)
  ·have hc7' := hc7
   (try simp only [V.cnd, ne_eq] at hc7')
   refine sr_ ?_
   refine om_ ?_
   refine nm_ [2] ?_
   refine CD.ret ?_
   refine r1_ ?_
   refine ⟨vi ?_, rfl⟩
   try simp only [str_eq0] at *
   unfold checkV
   simp_all
   try omega
  have hc7' := hc7
  (try simp only [V.cnd, ne_eq] at hc7')
  refine CD.skip ?_
  refine sr_ ?_
  refine os_ (fa_ 2) ?_
  refine os_ (lb_ 0) ?_
  refine os_ (still_slen rfl rfl ot Tryd.runUnderlying9) ?_
  refine os_ bn_ ?_
  refine on_ [(43, _)] [⟨b1, 37, 3, [_, _, _]⟩] ?_
  refine CD.cond ot (fun hc8 => ?_) (fun hc8 => ?_)
  ·have hc8' := hc8
   (try simp only [V.cnd, ne_eq] at hc8')
   refine sr_ ?_
   refine om_ ?_
   refine nm_ [2] ?_
   refine CD.ret ?_
   refine r1_ ?_
   refine ⟨vi ?_, rfl⟩
   try simp only [str_eq0] at *
   unfold checkV
   simp_all
   try omega
  have hc8' := hc8
  (try simp only [V.cnd, ne_eq] at hc8')
  refine CD.skip ?_
  refine sr_ ?_
  refine om_ ?_
  refine nm_ [2] ?_
  refine CD.ret ?_
  refine r1_ ?_
  refine ⟨vi ?_, rfl⟩
  try simp only [str_eq0] at *
  unfold checkV
  simp_all
  try omega
 have hc6' := hc6
 (try simp only [V.cnd, ne_eq] at hc6')
 refine sr_ ?_
 refine om_ ?_
 refine nm_ [2] ?_
 refine CD.ret ?_
 refine r1_ ?_
 refine ⟨vi ?_, rfl⟩
 try simp only [str_eq0] at *
 unfold checkV
 simp_all
 try omega

end Go.Proofs.YtjgekbmahhhokaaDoor.Vl

namespace Go.Proofs.YtjgekbmahhhokaaDoor.Nm
open Go.RowKit V Pk Vl
set_option linter.unusedVariables false
set_option linter.unusedSimpArgs false

theorem eqs37 (x y : Vl) : ∀ w, (Op.equalIn 10000 37 (.agg [.int .i64 x.k, .int .i64 x.n, .string x.s].toArray) (.agg [.int .i64 y.k, .int .i64 y.n, .string y.s].toArray)).run Tryd.prog w = .ok (x.k == y.k && (x.n == y.n && x.s.toList == y.s.toList)) w := fun w => by
 have hS : Tryd.prog.underlying 37 = some (.struct (Tryd.prog.fieldsOf 37)) := by kernel_rfl
 have hp : Tryd.prog.stoodInHeld 37 = false := by kernel_rfl
 rw [show (10000 : Nat) = 9999 + 1 from rfl, run_equalIn_agg w 9999 37 _ _ hS hp]
 have u := Tryd.underlying37
 have u3 := Tryd.underlying3
 have u9 := Tryd.underlying9
 have a3 := Tryd.isAgg3
 have a9 := Tryd.isAgg9
 have z3 := Tryd.sizeOf3
 have z9 := Tryd.sizeOf9
 simp only [Program.fieldsOf, u]
 go_simp
 by_cases h1 : x.k = y.k <;> by_cases h2 : x.n = y.n <;> by_cases h3 : x.s.toList = y.s.toList <;> simp [h1, h2, h3]

def litF (v : Vl) : Int := if v.k = 2 ∧ v.n = -9223372036854775808 then 3 else checkV v
structure OpL where
 k : Int
 v : Vl
 nm : ByteArray
def cO (o : OpL) : List D := [.v (.int .i64 o.k), .v (.int .i64 o.v.k), .v (.int .i64 o.v.n), .v (.string o.v.s), .v (.string o.nm)]
theorem cO_len (o : OpL) : (cO o).length = 5 := rfl
theorem cO_one (o : OpL) : (cO o).all V.one = true := rfl
def popsF (k : Int) : Int := if k = 1 ∨ k = 2 then 0 else if k = 5 ∨ k = 11 then 1 else 2
theorem pops_bd (k : Int) : 0 ≤ popsF k ∧ popsF k ≤ 2 := by unfold popsF; split <;> (try split) <;> omega
def zeroV (v : Vl) : Bool := v.k == 0 && (v.n == 0 && v.s.toList == (⟨#[]⟩ : ByteArray).toList)
def opErr (h : Int) (o : OpL) : Int :=
 if o.k < 1 ∨ o.k > 11 then 2
 else if litF o.v ≠ 0 then litF o.v
 else if ((o.k != 1 && !(zeroV o.v)) || (o.k != 2 && !(o.nm.toList == (⟨#[]⟩ : ByteArray).toList))) = true then 6
 else if o.k = 2 ∧ nameF o.nm ≠ 0 then nameF o.nm
 else if h < popsF o.k then 7 else 0
def exprL : Int → List OpL → Int
 | h, [] => if h = 1 then 0 else 7
 | h, o :: r => if opErr h o = 0 then exprL (h + (1 - popsF o.k)) r else opErr h o
def exprF (l : List OpL) : Int := if l.length > 40 then 10 else exprL 0 l
theorem exprL_ok {l : List OpL} {i : Nat} {h : Int} (hi : i < l.length) (he : opErr h l[i] = 0) : exprL h (l.drop i) = exprL (h + (1 - popsF l[i].k)) (l.drop (i + 1)) := by
 rw [List.drop_eq_getElem_cons hi, exprL, if_pos he]
theorem exprL_no {l : List OpL} {i : Nat} {h e : Int} (hi : i < l.length) (he : opErr h l[i] = e) (h0 : e ≠ 0) : exprL h (l.drop i) = e := by
 rw [List.drop_eq_getElem_cons hi, exprL, if_neg (by rw [he]; exact h0), he]
theorem exprL_end {l : List OpL} {i : Nat} {h : Int} (hi : l.length ≤ i) : exprL h (l.drop i) = if h = 1 then 0 else 7 := by
 rw [List.drop_of_length_le hi, exprL]
variable {G : List (Nat × List Value)}

set_option maxHeartbeats 4000000 in
set_option maxRecDepth 100000 in
theorem literal_vp (v : Vl) : VP Tryd.prog G 84 [.agg (cV v)] (.v (.int .i64 (litF v))) := by
 refine VC.body Tryd.func84 rfl Tryd.ntmps84 le_ fun X0 w0 S00 => ?_
 unfold cV
 refine sr_ ?_
 refine OD.box (ds := [_, _, _]) wp_ rfl rfl ot rfl rfl (fun b1 => ?_)
 refine om_ ?_
 refine on_ [(1, _)] [⟨b1, 37, 3, [_, _, _]⟩] ?_
 refine CD.seq ?_
 refine sr_ ?_
 refine os_ (fa_ 0) ?_
 refine os_ (lb_ 0) ?_
 refine os_ bn_ ?_
 refine om_ ?_
 refine OD.split (t := 6) lk (fun hg6 => ?_) (fun hg6 => ?_)
 ·have hg6' := hg6; (try simp only [V.cnd, ne_eq] at hg6')
  refine os_ (fa_ 1) ?_
  refine os_ (lb_ 0) ?_
  refine os_ bn_ ?_
  refine os_ pkT_ ?_
  refine nm_ [1, 10] ?_
  refine CD.cond ot (fun hc0 => ?_) (fun hc0 => ?_)
  ·have hc0' := hc0
   (try simp only [V.cnd, ne_eq] at hc0')
   refine sr_ ?_
   refine om_ ?_
   refine nm_ [2] ?_
   refine CD.ret ?_
   refine r1_ ?_
   refine ⟨vi ?_, rfl⟩
   unfold litF
   simp_all
  have hc0' := hc0
  (try simp only [V.cnd, ne_eq] at hc0')
  refine CD.skip ?_
  refine sr_ ?_
  refine os_ (lab_ 0 [_, _, _]) ?_
  refine oc_ Tryd.call92 (Vl.check_vp v) ?_
  refine om_ ?_
  refine on_ [(2, _)] [⟨b1, 37, 3, [_, _, _]⟩] ?_
  refine CD.ret ?_
  refine ⟨.inr rfl, rt_ Tryd.results84 ?_⟩
  refine ⟨vi ?_, rfl⟩
  unfold litF
  simp_all
 have hg6' := hg6; (try simp only [V.cnd, ne_eq] at hg6')
 refine sk_ ?_
 refine sk_ ?_
 refine sk_ ?_
 refine os_ pkF_ ?_
 refine nm_ [1, 10] ?_
 refine CD.condF ot (by first | rfl | assumption) ?_
 refine CD.skip ?_
 refine sr_ ?_
 refine os_ (lab_ 0 [_, _, _]) ?_
 refine oc_ Tryd.call92 (Vl.check_vp v) ?_
 refine om_ ?_
 refine on_ [(2, _)] [⟨b1, 37, 3, [_, _, _]⟩] ?_
 refine CD.ret ?_
 refine ⟨.inr rfl, rt_ Tryd.results84 ?_⟩
 refine ⟨vi ?_, rfl⟩
 unfold litF
 simp_all

set_option maxHeartbeats 4000000 in
set_option maxRecDepth 100000 in
theorem pops_vp (k : Int) : VP Tryd.prog G 81 [.v (.int .i64 k)] (.v (.int .i64 (popsF k))) := by
 refine VC.body Tryd.func81 rfl Tryd.ntmps81 le_ fun X0 w0 S00 => ?_
 refine sr_ ?_
 refine om_ ?_
 refine nm_ [0] ?_
 refine CD.seq ?_
 refine sr_ ?_
 refine om_ ?_
 refine nm_ [3] ?_
 refine CD.block ?_
 refine CD.seq ?_
 refine sr_ ?_
 refine os_ bn_ ?_
 refine om_ ?_
 refine nm_ [3, 4] ?_
 refine CD.cond ot (fun hc0 => ?_) (fun hc0 => ?_)
 ·have hc0' := hc0
  (try simp only [V.cnd, ne_eq] at hc0')
  refine CD.skip ?_
  refine CD.condT ot (by first | rfl | assumption) ?_
  refine sr_ ?_
  refine om_ ?_
  refine nm_ [2] ?_
  refine CD.ret ?_
  refine r1_ ?_
  refine ⟨vi ?_, rfl⟩
  unfold popsF
  simp_all
 have hc0' := hc0
 (try simp only [V.cnd, ne_eq] at hc0')
 refine CD.region ?_
 refine os_ bn_ ?_
 refine om_ ?_
 refine nm_ [3, 4] ?_
 refine CD.cond ot (fun hc1 => ?_) (fun hc1 => ?_)
 ·have hc1' := hc1
  (try simp only [V.cnd, ne_eq] at hc1')
  refine sr_ ?_
  refine om_ ?_
  refine nm_ [2] ?_
  refine CD.ret ?_
  refine r1_ ?_
  refine ⟨vi ?_, rfl⟩
  unfold popsF
  simp_all
 have hc1' := hc1
 (try simp only [V.cnd, ne_eq] at hc1')
 refine CD.seq ?_
 refine sr_ ?_
 refine os_ bn_ ?_
 refine om_ ?_
 refine nm_ [3, 7] ?_
 refine CD.cond ot (fun hc2 => ?_) (fun hc2 => ?_)
 ·have hc2' := hc2
  (try simp only [V.cnd, ne_eq] at hc2')
  refine CD.skip ?_
  refine CD.condT ot (by first | rfl | assumption) ?_
  refine sr_ ?_
  refine om_ ?_
  refine nm_ [2] ?_
  refine CD.ret ?_
  refine r1_ ?_
  refine ⟨vi ?_, rfl⟩
  unfold popsF
  simp_all
 have hc2' := hc2
 (try simp only [V.cnd, ne_eq] at hc2')
 refine CD.region ?_
 refine os_ bn_ ?_
 refine om_ ?_
 refine nm_ [7] ?_
 refine CD.cond ot (fun hc3 => ?_) (fun hc3 => ?_)
 ·have hc3' := hc3
  (try simp only [V.cnd, ne_eq] at hc3')
  refine sr_ ?_
  refine om_ ?_
  refine nm_ [2] ?_
  refine CD.ret ?_
  refine r1_ ?_
  refine ⟨vi ?_, rfl⟩
  unfold popsF
  simp_all
 have hc3' := hc3
 (try simp only [V.cnd, ne_eq] at hc3')
 refine CD.skip ?_
 refine sr_ ?_
 refine om_ ?_
 refine nm_ [2] ?_
 refine CD.ret ?_
 refine r1_ ?_
 refine ⟨vi ?_, rfl⟩
 unfold popsF
 simp_all

theorem places37_Nm3 : ∀ w, ((#[{ name := "Kind", type := 3, offset := 0, embedded := false, tag := "", pkgPath := "", byteOffset := 0 }, { name := "Int", type := 3, offset := 1, embedded := false, tag := "", pkgPath := "", byteOffset := 8 }, { name := "Text", type := 9, offset := 2, embedded := false, tag := "", pkgPath := "", byteOffset := 16 }] : Array Field).mapM fun f => do pure (f.offset, ← sizeOf f.type) : Sem (Array (Nat × Nat))).run Tryd.prog w = .ok #[(0, 1), (1, 1), (2, 1)] w := fun w => by simp [Tryd.sizeOf3, Tryd.sizeOf9]

set_option maxHeartbeats 4000000 in
set_option maxRecDepth 100000 in
theorem expr_vp (hm : (0, marksC) ∈ G) (hw : (2, wordsC) ∈ G) (l : List OpL) (hs : ∀ o ∈ l, o.nm.size ≤ maxLen) : VP Tryd.prog G 65 [.list 5 (l.flatMap cO) l.length] (.v (.int .i64 (exprF l))) := by
 refine VC.body Tryd.func65 rfl Tryd.ntmps65 le_ fun X0 w0 S00 => ?_
 have hlx : l.length ≤ 40 ∨ 40 < l.length := by omega
 refine sr_ ?_
 refine om_ ?_
 refine nm_ [0] ?_
 refine CD.seq ?_
 refine sr_ ?_
 refine om_ ?_
 refine os_ ln_ ?_
 refine os_ bn_ ?_
 refine nm_ [0, 10] ?_
 refine CD.cond ot (fun hc0 => ?_) (fun hc0 => ?_)
 ·have hc0' := hc0
  (try simp only [V.cnd, ne_eq] at hc0')
  have hf : exprF l = 10 := if_pos (by omega)
  refine sr_ ?_
  refine om_ ?_
  refine nm_ [2] ?_
  refine CD.ret ?_
  refine r1_ ?_
  refine ⟨vi ?_, rfl⟩
  first | exact hf.symm | (rw [hf, hx, exprL_no hlt herr (by first | assumption | decide)]; done) | (rw [hf, hend, if_pos (by simpa using hc8)]; done) | (rw [hf, hend, if_neg (by simpa using hc8)]; done)
 have hc0' := hc0
 (try simp only [V.cnd, ne_eq] at hc0')
 have hf : exprF l = exprL 0 l := if_neg (by omega)
 have h40 : l.length ≤ 40 := by omega
 refine CD.skip ?_
 refine sr_ ?_
 refine om_ ?_
 refine nm_ [0, 3] ?_
 refine CD.seq ?_
 refine sr_ ?_
 refine om_ ?_
 refine os_ ln_ ?_
 refine om_ ?_
 refine nm_ [3, 11, 12, 13] ?_
 refine CD.block ?_
 refine lp_ (fun (gh__ : Nat × Int) y__ => match gh__ with | (i, h) => (i ≤ l.length) ∧ (exprL 0 l = exprL h (l.drop i)) ∧ (0 ≤ h) ∧ (h ≤ i) ∧ y__ = (⟨73, [(3, .v (.int .i64 h)), (11, .list 5 (l.flatMap cO) l.length), (12, .v (.int .i64 l.length)), (13, .v (.int .i64 (i : Nat)))], []⟩ : St)) (fun (gh__ : Nat × Int) => match gh__ with | (i, h) => l.length - i) (0, 0) ⟨(Nat.zero_le _), rfl, (Int.le_refl _), (Int.le_refl _), rfl⟩ (Wk.asS rfl sv_ (by repeat (first | exact trivial | refine ⟨lq_, ?_⟩))) ?_
 rintro ⟨i, h⟩ _ ⟨hi, hx, h0, hh, rfl⟩
 refine sr_ ?_
 refine os_ bn_ ?_
 refine nm_ [3, 11, 12, 13, 14] ?_
 refine CD.seq ?_
 refine CD.cond ot (fun hc1 => ?_) (fun hc1 => ?_)
 ·have hc1' := hc1
  (try simp only [V.cnd, ne_eq] at hc1')
  have hlt : i < l.length := by omega
  have hpb := pops_bd l[i].k
  refine CD.skip ?_
  refine CD.seq ?_
  refine CD.block ?_
  refine sr_ ?_
  refine os_ (ix_ 5) ?_
  refine os_ (la_ [_, _, _, _, _]) ?_
  refine OD.alloc (ds := [_, _, _, _, _]) wp_ rfl rfl Tryd.zeroValue39 rfl (fun b5 => ?_)
  refine ot_ 0 [_, _, _, _, _] Tryd.sizeOf39 ?_
  refine on_ [(3, _), (5, _), (11, _), (12, _), (13, _)] [⟨b5, 39, 5, [_, _, _, _, _]⟩] ?_
  refine CD.seq ?_
  refine sr_ ?_
  refine os_ (fa_ 0) ?_
  refine os_ (lb_ 0) ?_
  refine os_ bn_ ?_
  refine om_ ?_
  refine OD.split (t := 20) lk (fun hg20 => ?_) (fun hg20 => ?_)
  ·have hg20' := hg20; (try simp only [V.cnd, ne_eq] at hg20')
   refine sk_ ?_
   refine sk_ ?_
   refine sk_ ?_
   refine os_ pkT_ ?_
   refine nm_ [3, 5, 11, 12, 13, 24] ?_
   refine CD.condT ot (by first | rfl | assumption) ?_
   have herr : opErr h l[i] = 2 := by unfold opErr; rw [if_pos (by omega)]
   refine sr_ ?_
   refine om_ ?_
   refine nm_ [2] ?_
   refine CD.ret ?_
   refine r1_ ?_
   refine ⟨vi ?_, rfl⟩
   first | exact hf.symm | (rw [hf, hx, exprL_no hlt herr (by first | assumption | decide)]; done) | (rw [hf, hend, if_pos (by simpa using hc8)]; done) | (rw [hf, hend, if_neg (by simpa using hc8)]; done)
  have hg20' := hg20; (try simp only [V.cnd, ne_eq] at hg20')
  refine os_ (fa_ 0) ?_
  refine os_ (lb_ 0) ?_
  refine os_ bn_ ?_
  refine os_ pkF_ ?_
  refine nm_ [3, 5, 11, 12, 13, 24] ?_
  refine CD.cond ot (fun hc2 => ?_) (fun hc2 => ?_)
  ·have hc2' := hc2
   (try simp only [V.cnd, ne_eq] at hc2')
   have herr : opErr h l[i] = 2 := by unfold opErr; rw [if_pos (by omega)]
   refine sr_ ?_
   refine om_ ?_
   refine nm_ [2] ?_
   refine CD.ret ?_
   refine r1_ ?_
   refine ⟨vi ?_, rfl⟩
   first | exact hf.symm | (rw [hf, hx, exprL_no hlt herr (by first | assumption | decide)]; done) | (rw [hf, hend, if_pos (by simpa using hc8)]; done) | (rw [hf, hend, if_neg (by simpa using hc8)]; done)
  have hc2' := hc2
  (try simp only [V.cnd, ne_eq] at hc2')
  have hk1 : ¬ (l[i].k < 1 ∨ l[i].k > 11) := by omega
  refine CD.skip ?_
  refine CD.seq ?_
  refine sr_ ?_
  refine os_ (fa_ 1) ?_
  refine os_ (lab_ 0 [_, _, _]) ?_
  refine oc_ Tryd.call84 (literal_vp l[i].v) ?_
  refine om_ ?_
  refine on_ [(3, _), (5, _), (6, _), (11, _), (12, _), (13, _)] [⟨b5, 39, 5, [_, _, _, _, _]⟩] ?_
  refine sr_ ?_
  refine om_ ?_
  refine os_ bn_ ?_
  refine nm_ [3, 5, 6, 11, 12, 13, 29] ?_
  refine CD.cond ot (fun hc3 => ?_) (fun hc3 => ?_)
  ·have hc3' := hc3
   (try simp only [V.cnd, ne_eq] at hc3')
   have hlit : litF l[i].v ≠ 0 := by simpa using hc3
   have herr : opErr h l[i] = litF l[i].v := by unfold opErr; rw [if_neg hk1, if_pos hlit]
   refine sr_ ?_
   refine om_ ?_
   refine om_ ?_
   refine nm_ [2] ?_
   refine CD.ret ?_
   refine r1_ ?_
   refine ⟨vi ?_, rfl⟩
   first | exact hf.symm | (rw [hf, hx, exprL_no hlt herr (by first | assumption | decide)]; done) | (rw [hf, hend, if_pos (by simpa using hc8)]; done) | (rw [hf, hend, if_neg (by simpa using hc8)]; done)
  have hc3' := hc3
  (try simp only [V.cnd, ne_eq] at hc3')
  have hlit : litF l[i].v = 0 := by simpa using hc3
  refine CD.skip ?_
  refine CD.seq ?_
  refine sr_ ?_
  refine os_ (fa_ 0) ?_
  refine os_ (lb_ 0) ?_
  refine os_ bn_ ?_
  refine om_ ?_
  refine OD.split (t := 34) lk (fun hg34 => ?_) (fun hg34 => ?_)
  ·have hg34' := hg34; (try simp only [V.cnd, ne_eq] at hg34')
   refine os_ (fa_ 1) ?_
   refine os_ (lab_ 0 [_, _, _]) ?_
   refine OD.still wt_ rfl (still_bld (pl := []) (ds := [_, _, _]) rfl Tryd.zeroValue37 Tryd.runUnderlying37 places37_Nm3 trivial rfl rfl) ?_
   refine OD.still wt_ rfl (still_neS (us := [_, _, _]) (us' := [_, _, _]) rfl ot ot Tryd.eqGuardType37 (eqs37 l[i].v ⟨0, 0, ⟨#[]⟩⟩)) ?_
   refine os_ pkT_ ?_
   refine om_ ?_
   refine OD.split (t := 40) lk (fun hg40 => ?_) (fun hg40 => ?_)
   ·have hg40' := hg40; (try simp only [V.cnd, ne_eq] at hg40')
    refine sk_ ?_
    refine sk_ ?_
    refine sk_ ?_
    refine sk_ ?_
    refine sj_ ?_
    refine sj_ ?_
    refine sj_ ?_
    refine sk_ ?_
    refine os_ pkT_ ?_
    refine on_ [(3, _), (5, _), (11, _), (12, _), (13, _), (49, _)] [⟨b5, 39, 5, [_, _, _, _, _]⟩] ?_
    refine CD.condT ot (by first | rfl | assumption) ?_
    have herr : opErr h l[i] = 6 := by unfold opErr zeroV; rw [if_neg hk1, if_neg (by rw [hlit]; simp), if_pos (by simp_all)]
    refine sr_ ?_
    refine om_ ?_
    refine nm_ [2] ?_
    refine CD.ret ?_
    refine r1_ ?_
    refine ⟨vi ?_, rfl⟩
    first | exact hf.symm | (rw [hf, hx, exprL_no hlt herr (by first | assumption | decide)]; done) | (rw [hf, hend, if_pos (by simpa using hc8)]; done) | (rw [hf, hend, if_neg (by simpa using hc8)]; done)
   have hg40' := hg40; (try simp only [V.cnd, ne_eq] at hg40')
   refine os_ (fa_ 0) ?_
   refine os_ (lb_ 0) ?_
   refine os_ bn_ ?_
   refine om_ ?_
   refine OD.split (t := 44) lk (fun hg44 => ?_) (fun hg44 => ?_)
   ·have hg44' := hg44; (try simp only [V.cnd, ne_eq] at hg44')
    refine os_ (fa_ 4) ?_
    refine os_ (lb_ 0) ?_
    refine os_ bn_ ?_
    refine os_ pkT_ ?_
    refine os_ pkF_ ?_
    refine on_ [(3, _), (5, _), (11, _), (12, _), (13, _), (49, _)] [⟨b5, 39, 5, [_, _, _, _, _]⟩] ?_
    refine CD.cond ot (fun hc4 => ?_) (fun hc4 => ?_)
    ·have hc4' := hc4
     (try simp only [V.cnd, ne_eq] at hc4')
     have herr : opErr h l[i] = 6 := by unfold opErr zeroV; rw [if_neg hk1, if_neg (by rw [hlit]; simp), if_pos (by simp_all)]
     refine sr_ ?_
     refine om_ ?_
     refine nm_ [2] ?_
     refine CD.ret ?_
     refine r1_ ?_
     refine ⟨vi ?_, rfl⟩
     first | exact hf.symm | (rw [hf, hx, exprL_no hlt herr (by first | assumption | decide)]; done) | (rw [hf, hend, if_pos (by simpa using hc8)]; done) | (rw [hf, hend, if_neg (by simpa using hc8)]; done)
    have hc4' := hc4
    (try simp only [V.cnd, ne_eq] at hc4')
    have hform : ¬ ((l[i].k != 1 && !(zeroV l[i].v)) || (l[i].k != 2 && !(l[i].nm.toList == (⟨#[]⟩ : ByteArray).toList))) = true := by unfold zeroV; simp_all
    refine CD.skip ?_
    refine CD.seq ?_
    refine sr_ ?_
    refine os_ (fa_ 0) ?_
    refine os_ (lb_ 0) ?_
    refine os_ bn_ ?_
    refine nm_ [3, 5, 11, 12, 13, 52] ?_
    refine CD.cond ot (fun hc5 => ?_) (fun hc5 => ?_)
    ·have hc5' := hc5
     (try simp only [V.cnd, ne_eq] at hc5')
     refine sr_ ?_
     refine os_ (fa_ 4) ?_
     refine os_ (lb_ 0) ?_
     refine oc_ Tryd.call61 (name_vp hm hw l[i].nm (hs _ (List.getElem_mem hlt))) ?_
     refine om_ ?_
     refine on_ [(3, _), (5, _), (7, _), (11, _), (12, _), (13, _)] [⟨b5, 39, 5, [_, _, _, _, _]⟩] ?_
     refine sr_ ?_
     refine om_ ?_
     refine os_ bn_ ?_
     refine nm_ [3, 5, 7, 11, 12, 13, 57] ?_
     refine CD.cond ot (fun hc6 => ?_) (fun hc6 => ?_)
     ·have hc6' := hc6
      (try simp only [V.cnd, ne_eq] at hc6')
      have hnm : nameF l[i].nm ≠ 0 := by simpa using hc6
      have herr : opErr h l[i] = nameF l[i].nm := by unfold opErr; rw [if_neg hk1, if_neg (by rw [hlit]; simp), if_neg hform, if_pos ⟨by simpa using hc5, hnm⟩]
      refine sr_ ?_
      refine om_ ?_
      refine om_ ?_
      refine nm_ [2] ?_
      refine CD.ret ?_
      refine r1_ ?_
      refine ⟨vi ?_, rfl⟩
      first | exact hf.symm | (rw [hf, hx, exprL_no hlt herr (by first | assumption | decide)]; done) | (rw [hf, hend, if_pos (by simpa using hc8)]; done) | (rw [hf, hend, if_neg (by simpa using hc8)]; done)
     have hc6' := hc6
     (try simp only [V.cnd, ne_eq] at hc6')
     have hnn : ¬ (l[i].k = 2 ∧ nameF l[i].nm ≠ 0) := by simp at hc6; simp [hc6]
     refine CD.skip ?_
     refine CD.seq ?_
     refine sr_ ?_
     refine om_ ?_
     refine os_ (fa_ 0) ?_
     refine os_ (lb_ 0) ?_
     refine oc_ Tryd.call81 (pops_vp l[i].k) ?_
     refine os_ bn_ ?_
     refine on_ [(3, _), (5, _), (11, _), (12, _), (13, _), (63, _)] [⟨b5, 39, 5, [_, _, _, _, _]⟩] ?_
     refine CD.cond ot (fun hc7 => ?_) (fun hc7 => ?_)
     ·have hc7' := hc7
      (try simp only [V.cnd, ne_eq] at hc7')
      have hsh : h < popsF l[i].k := by simpa using hc7
      have herr : opErr h l[i] = 7 := by unfold opErr; rw [if_neg hk1, if_neg (by rw [hlit]; simp), if_neg hform, if_neg hnn, if_pos hsh]
      refine sr_ ?_
      refine om_ ?_
      refine nm_ [2] ?_
      refine CD.ret ?_
      refine r1_ ?_
      refine ⟨vi ?_, rfl⟩
      first | exact hf.symm | (rw [hf, hx, exprL_no hlt herr (by first | assumption | decide)]; done) | (rw [hf, hend, if_pos (by simpa using hc8)]; done) | (rw [hf, hend, if_neg (by simpa using hc8)]; done)
     have hc7' := hc7
     (try simp only [V.cnd, ne_eq] at hc7')
     have hsh : ¬ h < popsF l[i].k := by simpa using hc7
     have hok : opErr h l[i] = 0 := by unfold opErr; rw [if_neg hk1, if_neg (by rw [hlit]; simp), if_neg hform, if_neg hnn, if_neg hsh]
     refine CD.skip ?_
     refine CD.region ?_
     refine om_ ?_
     refine os_ (fa_ 0) ?_
     refine os_ (lb_ 0) ?_
     refine oc_ Tryd.call81 (pops_vp l[i].k) ?_
     refine os_ bn_ ?_
     refine os_ bn_ ?_
     refine om_ ?_
     refine on_ [(3, _), (11, _), (12, _), (13, _)] [⟨b5, 39, 5, [_, _, _, _, _]⟩] ?_
     refine CD.region ?_
     refine os_ bn_ ?_
     refine om_ ?_
     refine nm_ [3, 11, 12, 13] ?_
     refine ⟨((i + 1), (h + (1 - popsF l[i].k))), _, ?_, ?_, (by omega), (by rw [hx]; exact exprL_ok hlt hok), (by omega), (by have := pops_bd l[i].k; omega), rfl⟩
     ·first | omega | (simp only []; omega)
     exact Wk.asS (n := 73) rfl sv_ (by repeat (first | exact trivial | refine ⟨lq_, ?_⟩))
    have hc5' := hc5
    (try simp only [V.cnd, ne_eq] at hc5')
    have hnn : ¬ (l[i].k = 2 ∧ nameF l[i].nm ≠ 0) := by simp at hc5; simp [hc5]
    refine CD.skip ?_
    refine CD.seq ?_
    refine sr_ ?_
    refine om_ ?_
    refine os_ (fa_ 0) ?_
    refine os_ (lb_ 0) ?_
    refine oc_ Tryd.call81 (pops_vp l[i].k) ?_
    refine os_ bn_ ?_
    refine on_ [(3, _), (5, _), (11, _), (12, _), (13, _), (63, _)] [⟨b5, 39, 5, [_, _, _, _, _]⟩] ?_
    refine CD.cond ot (fun hc7 => ?_) (fun hc7 => ?_)
    ·have hc7' := hc7
     (try simp only [V.cnd, ne_eq] at hc7')
     have hsh : h < popsF l[i].k := by simpa using hc7
     have herr : opErr h l[i] = 7 := by unfold opErr; rw [if_neg hk1, if_neg (by rw [hlit]; simp), if_neg hform, if_neg hnn, if_pos hsh]
     refine sr_ ?_
     refine om_ ?_
     refine nm_ [2] ?_
     refine CD.ret ?_
     refine r1_ ?_
     refine ⟨vi ?_, rfl⟩
     first | exact hf.symm | (rw [hf, hx, exprL_no hlt herr (by first | assumption | decide)]; done) | (rw [hf, hend, if_pos (by simpa using hc8)]; done) | (rw [hf, hend, if_neg (by simpa using hc8)]; done)
    have hc7' := hc7
    (try simp only [V.cnd, ne_eq] at hc7')
    have hsh : ¬ h < popsF l[i].k := by simpa using hc7
    have hok : opErr h l[i] = 0 := by unfold opErr; rw [if_neg hk1, if_neg (by rw [hlit]; simp), if_neg hform, if_neg hnn, if_neg hsh]
    refine CD.skip ?_
    refine CD.region ?_
    refine om_ ?_
    refine os_ (fa_ 0) ?_
    refine os_ (lb_ 0) ?_
    refine oc_ Tryd.call81 (pops_vp l[i].k) ?_
    refine os_ bn_ ?_
    refine os_ bn_ ?_
    refine om_ ?_
    refine on_ [(3, _), (11, _), (12, _), (13, _)] [⟨b5, 39, 5, [_, _, _, _, _]⟩] ?_
    refine CD.region ?_
    refine os_ bn_ ?_
    refine om_ ?_
    refine nm_ [3, 11, 12, 13] ?_
    refine ⟨((i + 1), (h + (1 - popsF l[i].k))), _, ?_, ?_, (by omega), (by rw [hx]; exact exprL_ok hlt hok), (by omega), (by have := pops_bd l[i].k; omega), rfl⟩
    ·first | omega | (simp only []; omega)
    exact Wk.asS (n := 73) rfl sv_ (by repeat (first | exact trivial | refine ⟨lq_, ?_⟩))
   have hg44' := hg44; (try simp only [V.cnd, ne_eq] at hg44')
   refine sk_ ?_
   refine sk_ ?_
   refine sk_ ?_
   refine os_ pkF_ ?_
   refine os_ pkF_ ?_
   refine on_ [(3, _), (5, _), (11, _), (12, _), (13, _), (49, _)] [⟨b5, 39, 5, [_, _, _, _, _]⟩] ?_
   refine CD.condF ot (by first | rfl | assumption) ?_
   have hform : ¬ ((l[i].k != 1 && !(zeroV l[i].v)) || (l[i].k != 2 && !(l[i].nm.toList == (⟨#[]⟩ : ByteArray).toList))) = true := by unfold zeroV; simp_all
   refine CD.skip ?_
   refine CD.seq ?_
   refine sr_ ?_
   refine os_ (fa_ 0) ?_
   refine os_ (lb_ 0) ?_
   refine os_ bn_ ?_
   refine nm_ [3, 5, 11, 12, 13, 52] ?_
   refine CD.cond ot (fun hc5 => ?_) (fun hc5 => ?_)
   ·have hc5' := hc5
    (try simp only [V.cnd, ne_eq] at hc5')
    refine sr_ ?_
    refine os_ (fa_ 4) ?_
    refine os_ (lb_ 0) ?_
    refine oc_ Tryd.call61 (name_vp hm hw l[i].nm (hs _ (List.getElem_mem hlt))) ?_
    refine om_ ?_
    refine on_ [(3, _), (5, _), (7, _), (11, _), (12, _), (13, _)] [⟨b5, 39, 5, [_, _, _, _, _]⟩] ?_
    refine sr_ ?_
    refine om_ ?_
    refine os_ bn_ ?_
    refine nm_ [3, 5, 7, 11, 12, 13, 57] ?_
    refine CD.cond ot (fun hc6 => ?_) (fun hc6 => ?_)
    ·have hc6' := hc6
     (try simp only [V.cnd, ne_eq] at hc6')
     have hnm : nameF l[i].nm ≠ 0 := by simpa using hc6
     have herr : opErr h l[i] = nameF l[i].nm := by unfold opErr; rw [if_neg hk1, if_neg (by rw [hlit]; simp), if_neg hform, if_pos ⟨by simpa using hc5, hnm⟩]
     refine sr_ ?_
     refine om_ ?_
     refine om_ ?_
     refine nm_ [2] ?_
     refine CD.ret ?_
     refine r1_ ?_
     refine ⟨vi ?_, rfl⟩
     first | exact hf.symm | (rw [hf, hx, exprL_no hlt herr (by first | assumption | decide)]; done) | (rw [hf, hend, if_pos (by simpa using hc8)]; done) | (rw [hf, hend, if_neg (by simpa using hc8)]; done)
    have hc6' := hc6
    (try simp only [V.cnd, ne_eq] at hc6')
    have hnn : ¬ (l[i].k = 2 ∧ nameF l[i].nm ≠ 0) := by simp at hc6; simp [hc6]
    refine CD.skip ?_
    refine CD.seq ?_
    refine sr_ ?_
    refine om_ ?_
    refine os_ (fa_ 0) ?_
    refine os_ (lb_ 0) ?_
    refine oc_ Tryd.call81 (pops_vp l[i].k) ?_
    refine os_ bn_ ?_
    refine on_ [(3, _), (5, _), (11, _), (12, _), (13, _), (63, _)] [⟨b5, 39, 5, [_, _, _, _, _]⟩] ?_
    refine CD.cond ot (fun hc7 => ?_) (fun hc7 => ?_)
    ·have hc7' := hc7
     (try simp only [V.cnd, ne_eq] at hc7')
     have hsh : h < popsF l[i].k := by simpa using hc7
     have herr : opErr h l[i] = 7 := by unfold opErr; rw [if_neg hk1, if_neg (by rw [hlit]; simp), if_neg hform, if_neg hnn, if_pos hsh]
     refine sr_ ?_
     refine om_ ?_
     refine nm_ [2] ?_
     refine CD.ret ?_
     refine r1_ ?_
     refine ⟨vi ?_, rfl⟩
     first | exact hf.symm | (rw [hf, hx, exprL_no hlt herr (by first | assumption | decide)]; done) | (rw [hf, hend, if_pos (by simpa using hc8)]; done) | (rw [hf, hend, if_neg (by simpa using hc8)]; done)
    have hc7' := hc7
    (try simp only [V.cnd, ne_eq] at hc7')
    have hsh : ¬ h < popsF l[i].k := by simpa using hc7
    have hok : opErr h l[i] = 0 := by unfold opErr; rw [if_neg hk1, if_neg (by rw [hlit]; simp), if_neg hform, if_neg hnn, if_neg hsh]
    refine CD.skip ?_
    refine CD.region ?_
    refine om_ ?_
    refine os_ (fa_ 0) ?_
    refine os_ (lb_ 0) ?_
    refine oc_ Tryd.call81 (pops_vp l[i].k) ?_
    refine os_ bn_ ?_
    refine os_ bn_ ?_
    refine om_ ?_
    refine on_ [(3, _), (11, _), (12, _), (13, _)] [⟨b5, 39, 5, [_, _, _, _, _]⟩] ?_
    refine CD.region ?_
    refine os_ bn_ ?_
    refine om_ ?_
    refine nm_ [3, 11, 12, 13] ?_
    refine ⟨((i + 1), (h + (1 - popsF l[i].k))), _, ?_, ?_, (by omega), (by rw [hx]; exact exprL_ok hlt hok), (by omega), (by have := pops_bd l[i].k; omega), rfl⟩
    ·first | omega | (simp only []; omega)
    exact Wk.asS (n := 73) rfl sv_ (by repeat (first | exact trivial | refine ⟨lq_, ?_⟩))
   have hc5' := hc5
   (try simp only [V.cnd, ne_eq] at hc5')
   have hnn : ¬ (l[i].k = 2 ∧ nameF l[i].nm ≠ 0) := by simp at hc5; simp [hc5]
   refine CD.skip ?_
   refine CD.seq ?_
   refine sr_ ?_
   refine om_ ?_
   refine os_ (fa_ 0) ?_
   refine os_ (lb_ 0) ?_
   refine oc_ Tryd.call81 (pops_vp l[i].k) ?_
   refine os_ bn_ ?_
   refine on_ [(3, _), (5, _), (11, _), (12, _), (13, _), (63, _)] [⟨b5, 39, 5, [_, _, _, _, _]⟩] ?_
   refine CD.cond ot (fun hc7 => ?_) (fun hc7 => ?_)
   ·have hc7' := hc7
    (try simp only [V.cnd, ne_eq] at hc7')
    have hsh : h < popsF l[i].k := by simpa using hc7
    have herr : opErr h l[i] = 7 := by unfold opErr; rw [if_neg hk1, if_neg (by rw [hlit]; simp), if_neg hform, if_neg hnn, if_pos hsh]
    refine sr_ ?_
    refine om_ ?_
    refine nm_ [2] ?_
    refine CD.ret ?_
    refine r1_ ?_
    refine ⟨vi ?_, rfl⟩
    first | exact hf.symm | (rw [hf, hx, exprL_no hlt herr (by first | assumption | decide)]; done) | (rw [hf, hend, if_pos (by simpa using hc8)]; done) | (rw [hf, hend, if_neg (by simpa using hc8)]; done)
   have hc7' := hc7
   (try simp only [V.cnd, ne_eq] at hc7')
   have hsh : ¬ h < popsF l[i].k := by simpa using hc7
   have hok : opErr h l[i] = 0 := by unfold opErr; rw [if_neg hk1, if_neg (by rw [hlit]; simp), if_neg hform, if_neg hnn, if_neg hsh]
   refine CD.skip ?_
   refine CD.region ?_
   refine om_ ?_
   refine os_ (fa_ 0) ?_
   refine os_ (lb_ 0) ?_
   refine oc_ Tryd.call81 (pops_vp l[i].k) ?_
   refine os_ bn_ ?_
   refine os_ bn_ ?_
   refine om_ ?_
   refine on_ [(3, _), (11, _), (12, _), (13, _)] [⟨b5, 39, 5, [_, _, _, _, _]⟩] ?_
   refine CD.region ?_
   refine os_ bn_ ?_
   refine om_ ?_
   refine nm_ [3, 11, 12, 13] ?_
   refine ⟨((i + 1), (h + (1 - popsF l[i].k))), _, ?_, ?_, (by omega), (by rw [hx]; exact exprL_ok hlt hok), (by omega), (by have := pops_bd l[i].k; omega), rfl⟩
   ·first | omega | (simp only []; omega)
   exact Wk.asS (n := 73) rfl sv_ (by repeat (first | exact trivial | refine ⟨lq_, ?_⟩))
  have hg34' := hg34; (try simp only [V.cnd, ne_eq] at hg34')
  refine sk_ ?_
  refine sk_ ?_
  refine sk_ ?_
  refine sk_ ?_
  refine os_ pkF_ ?_
  refine om_ ?_
  refine os_ (fa_ 0) ?_
  refine os_ (lb_ 0) ?_
  refine os_ bn_ ?_
  refine om_ ?_
  refine OD.split (t := 44) lk (fun hg44 => ?_) (fun hg44 => ?_)
  ·have hg44' := hg44; (try simp only [V.cnd, ne_eq] at hg44')
   refine os_ (fa_ 4) ?_
   refine os_ (lb_ 0) ?_
   refine os_ bn_ ?_
   refine os_ pkT_ ?_
   refine os_ pkF_ ?_
   refine nm_ [3, 5, 11, 12, 13, 49] ?_
   refine CD.cond ot (fun hc4 => ?_) (fun hc4 => ?_)
   ·have hc4' := hc4
    (try simp only [V.cnd, ne_eq] at hc4')
    have herr : opErr h l[i] = 6 := by unfold opErr zeroV; rw [if_neg hk1, if_neg (by rw [hlit]; simp), if_pos (by simp_all)]
    refine sr_ ?_
    refine om_ ?_
    refine nm_ [2] ?_
    refine CD.ret ?_
    refine r1_ ?_
    refine ⟨vi ?_, rfl⟩
    first | exact hf.symm | (rw [hf, hx, exprL_no hlt herr (by first | assumption | decide)]; done) | (rw [hf, hend, if_pos (by simpa using hc8)]; done) | (rw [hf, hend, if_neg (by simpa using hc8)]; done)
   have hc4' := hc4
   (try simp only [V.cnd, ne_eq] at hc4')
   have hform : ¬ ((l[i].k != 1 && !(zeroV l[i].v)) || (l[i].k != 2 && !(l[i].nm.toList == (⟨#[]⟩ : ByteArray).toList))) = true := by unfold zeroV; simp_all
   refine CD.skip ?_
   refine CD.seq ?_
   refine sr_ ?_
   refine os_ (fa_ 0) ?_
   refine os_ (lb_ 0) ?_
   refine os_ bn_ ?_
   refine nm_ [3, 5, 11, 12, 13, 52] ?_
   refine CD.cond ot (fun hc5 => ?_) (fun hc5 => ?_)
   ·have hc5' := hc5
    (try simp only [V.cnd, ne_eq] at hc5')
    refine sr_ ?_
    refine os_ (fa_ 4) ?_
    refine os_ (lb_ 0) ?_
    refine oc_ Tryd.call61 (name_vp hm hw l[i].nm (hs _ (List.getElem_mem hlt))) ?_
    refine om_ ?_
    refine on_ [(3, _), (5, _), (7, _), (11, _), (12, _), (13, _)] [⟨b5, 39, 5, [_, _, _, _, _]⟩] ?_
    refine sr_ ?_
    refine om_ ?_
    refine os_ bn_ ?_
    refine nm_ [3, 5, 7, 11, 12, 13, 57] ?_
    refine CD.cond ot (fun hc6 => ?_) (fun hc6 => ?_)
    ·have hc6' := hc6
     (try simp only [V.cnd, ne_eq] at hc6')
     have hnm : nameF l[i].nm ≠ 0 := by simpa using hc6
     have herr : opErr h l[i] = nameF l[i].nm := by unfold opErr; rw [if_neg hk1, if_neg (by rw [hlit]; simp), if_neg hform, if_pos ⟨by simpa using hc5, hnm⟩]
     refine sr_ ?_
     refine om_ ?_
     refine om_ ?_
     refine nm_ [2] ?_
     refine CD.ret ?_
     refine r1_ ?_
     refine ⟨vi ?_, rfl⟩
     first | exact hf.symm | (rw [hf, hx, exprL_no hlt herr (by first | assumption | decide)]; done) | (rw [hf, hend, if_pos (by simpa using hc8)]; done) | (rw [hf, hend, if_neg (by simpa using hc8)]; done)
    have hc6' := hc6
    (try simp only [V.cnd, ne_eq] at hc6')
    have hnn : ¬ (l[i].k = 2 ∧ nameF l[i].nm ≠ 0) := by simp at hc6; simp [hc6]
    refine CD.skip ?_
    refine CD.seq ?_
    refine sr_ ?_
    refine om_ ?_
    refine os_ (fa_ 0) ?_
    refine os_ (lb_ 0) ?_
    refine oc_ Tryd.call81 (pops_vp l[i].k) ?_
    refine os_ bn_ ?_
    refine on_ [(3, _), (5, _), (11, _), (12, _), (13, _), (63, _)] [⟨b5, 39, 5, [_, _, _, _, _]⟩] ?_
    refine CD.cond ot (fun hc7 => ?_) (fun hc7 => ?_)
    ·have hc7' := hc7
     (try simp only [V.cnd, ne_eq] at hc7')
     have hsh : h < popsF l[i].k := by simpa using hc7
     have herr : opErr h l[i] = 7 := by unfold opErr; rw [if_neg hk1, if_neg (by rw [hlit]; simp), if_neg hform, if_neg hnn, if_pos hsh]
     refine sr_ ?_
     refine om_ ?_
     refine nm_ [2] ?_
     refine CD.ret ?_
     refine r1_ ?_
     refine ⟨vi ?_, rfl⟩
     first | exact hf.symm | (rw [hf, hx, exprL_no hlt herr (by first | assumption | decide)]; done) | (rw [hf, hend, if_pos (by simpa using hc8)]; done) | (rw [hf, hend, if_neg (by simpa using hc8)]; done)
    have hc7' := hc7
    (try simp only [V.cnd, ne_eq] at hc7')
    have hsh : ¬ h < popsF l[i].k := by simpa using hc7
    have hok : opErr h l[i] = 0 := by unfold opErr; rw [if_neg hk1, if_neg (by rw [hlit]; simp), if_neg hform, if_neg hnn, if_neg hsh]
    refine CD.skip ?_
    refine CD.region ?_
    refine om_ ?_
    refine os_ (fa_ 0) ?_
    refine os_ (lb_ 0) ?_
    refine oc_ Tryd.call81 (pops_vp l[i].k) ?_
    refine os_ bn_ ?_
    refine os_ bn_ ?_
    refine om_ ?_
    refine on_ [(3, _), (11, _), (12, _), (13, _)] [⟨b5, 39, 5, [_, _, _, _, _]⟩] ?_
    refine CD.region ?_
    refine os_ bn_ ?_
    refine om_ ?_
    refine nm_ [3, 11, 12, 13] ?_
    refine ⟨((i + 1), (h + (1 - popsF l[i].k))), _, ?_, ?_, (by omega), (by rw [hx]; exact exprL_ok hlt hok), (by omega), (by have := pops_bd l[i].k; omega), rfl⟩
    ·first | omega | (simp only []; omega)
    exact Wk.asS (n := 73) rfl sv_ (by repeat (first | exact trivial | refine ⟨lq_, ?_⟩))
   have hc5' := hc5
   (try simp only [V.cnd, ne_eq] at hc5')
   have hnn : ¬ (l[i].k = 2 ∧ nameF l[i].nm ≠ 0) := by simp at hc5; simp [hc5]
   refine CD.skip ?_
   refine CD.seq ?_
   refine sr_ ?_
   refine om_ ?_
   refine os_ (fa_ 0) ?_
   refine os_ (lb_ 0) ?_
   refine oc_ Tryd.call81 (pops_vp l[i].k) ?_
   refine os_ bn_ ?_
   refine on_ [(3, _), (5, _), (11, _), (12, _), (13, _), (63, _)] [⟨b5, 39, 5, [_, _, _, _, _]⟩] ?_
   refine CD.cond ot (fun hc7 => ?_) (fun hc7 => ?_)
   ·have hc7' := hc7
    (try simp only [V.cnd, ne_eq] at hc7')
    have hsh : h < popsF l[i].k := by simpa using hc7
    have herr : opErr h l[i] = 7 := by unfold opErr; rw [if_neg hk1, if_neg (by rw [hlit]; simp), if_neg hform, if_neg hnn, if_pos hsh]
    refine sr_ ?_
    refine om_ ?_
    refine nm_ [2] ?_
    refine CD.ret ?_
    refine r1_ ?_
    refine ⟨vi ?_, rfl⟩
    first | exact hf.symm | (rw [hf, hx, exprL_no hlt herr (by first | assumption | decide)]; done) | (rw [hf, hend, if_pos (by simpa using hc8)]; done) | (rw [hf, hend, if_neg (by simpa using hc8)]; done)
   have hc7' := hc7
   (try simp only [V.cnd, ne_eq] at hc7')
   have hsh : ¬ h < popsF l[i].k := by simpa using hc7
   have hok : opErr h l[i] = 0 := by unfold opErr; rw [if_neg hk1, if_neg (by rw [hlit]; simp), if_neg hform, if_neg hnn, if_neg hsh]
   refine CD.skip ?_
   refine CD.region ?_
   refine om_ ?_
   refine os_ (fa_ 0) ?_
   refine os_ (lb_ 0) ?_
   refine oc_ Tryd.call81 (pops_vp l[i].k) ?_
   refine os_ bn_ ?_
   refine os_ bn_ ?_
   refine om_ ?_
   refine on_ [(3, _), (11, _), (12, _), (13, _)] [⟨b5, 39, 5, [_, _, _, _, _]⟩] ?_
   refine CD.region ?_
   refine os_ bn_ ?_
   refine om_ ?_
   refine nm_ [3, 11, 12, 13] ?_
   refine ⟨((i + 1), (h + (1 - popsF l[i].k))), _, ?_, ?_, (by omega), (by rw [hx]; exact exprL_ok hlt hok), (by omega), (by have := pops_bd l[i].k; omega), rfl⟩
   ·first | omega | (simp only []; omega)
   exact Wk.asS (n := 73) rfl sv_ (by repeat (first | exact trivial | refine ⟨lq_, ?_⟩))
  have hg44' := hg44; (try simp only [V.cnd, ne_eq] at hg44')
  refine sk_ ?_
  refine sk_ ?_
  refine sk_ ?_
  refine os_ pkF_ ?_
  refine os_ pkF_ ?_
  refine nm_ [3, 5, 11, 12, 13, 49] ?_
  refine CD.condF ot (by first | rfl | assumption) ?_
  have hform : ¬ ((l[i].k != 1 && !(zeroV l[i].v)) || (l[i].k != 2 && !(l[i].nm.toList == (⟨#[]⟩ : ByteArray).toList))) = true := by unfold zeroV; simp_all
  refine CD.skip ?_
  refine CD.seq ?_
  refine sr_ ?_
  refine os_ (fa_ 0) ?_
  refine os_ (lb_ 0) ?_
  refine os_ bn_ ?_
  refine nm_ [3, 5, 11, 12, 13, 52] ?_
  refine CD.cond ot (fun hc5 => ?_) (fun hc5 => ?_)
  ·have hc5' := hc5
   (try simp only [V.cnd, ne_eq] at hc5')
   refine sr_ ?_
   refine os_ (fa_ 4) ?_
   refine os_ (lb_ 0) ?_
   refine oc_ Tryd.call61 (name_vp hm hw l[i].nm (hs _ (List.getElem_mem hlt))) ?_
   refine om_ ?_
   refine on_ [(3, _), (5, _), (7, _), (11, _), (12, _), (13, _)] [⟨b5, 39, 5, [_, _, _, _, _]⟩] ?_
   refine sr_ ?_
   refine om_ ?_
   refine os_ bn_ ?_
   refine nm_ [3, 5, 7, 11, 12, 13, 57] ?_
   refine CD.cond ot (fun hc6 => ?_) (fun hc6 => ?_)
   ·have hc6' := hc6
    (try simp only [V.cnd, ne_eq] at hc6')
    have hnm : nameF l[i].nm ≠ 0 := by simpa using hc6
    have herr : opErr h l[i] = nameF l[i].nm := by unfold opErr; rw [if_neg hk1, if_neg (by rw [hlit]; simp), if_neg hform, if_pos ⟨by simpa using hc5, hnm⟩]
    refine sr_ ?_
    refine om_ ?_
    refine om_ ?_
    refine nm_ [2] ?_
    refine CD.ret ?_
    refine r1_ ?_
    refine ⟨vi ?_, rfl⟩
    first | exact hf.symm | (rw [hf, hx, exprL_no hlt herr (by first | assumption | decide)]; done) | (rw [hf, hend, if_pos (by simpa using hc8)]; done) | (rw [hf, hend, if_neg (by simpa using hc8)]; done)
   have hc6' := hc6
   (try simp only [V.cnd, ne_eq] at hc6')
   have hnn : ¬ (l[i].k = 2 ∧ nameF l[i].nm ≠ 0) := by simp at hc6; simp [hc6]
   refine CD.skip ?_
   refine CD.seq ?_
   refine sr_ ?_
   refine om_ ?_
   refine os_ (fa_ 0) ?_
   refine os_ (lb_ 0) ?_
   refine oc_ Tryd.call81 (pops_vp l[i].k) ?_
   refine os_ bn_ ?_
   refine on_ [(3, _), (5, _), (11, _), (12, _), (13, _), (63, _)] [⟨b5, 39, 5, [_, _, _, _, _]⟩] ?_
   refine CD.cond ot (fun hc7 => ?_) (fun hc7 => ?_)
   ·have hc7' := hc7
    (try simp only [V.cnd, ne_eq] at hc7')
    have hsh : h < popsF l[i].k := by simpa using hc7
    have herr : opErr h l[i] = 7 := by unfold opErr; rw [if_neg hk1, if_neg (by rw [hlit]; simp), if_neg hform, if_neg hnn, if_pos hsh]
    refine sr_ ?_
    refine om_ ?_
    refine nm_ [2] ?_
    refine CD.ret ?_
    refine r1_ ?_
    refine ⟨vi ?_, rfl⟩
    first | exact hf.symm | (rw [hf, hx, exprL_no hlt herr (by first | assumption | decide)]; done) | (rw [hf, hend, if_pos (by simpa using hc8)]; done) | (rw [hf, hend, if_neg (by simpa using hc8)]; done)
   have hc7' := hc7
   (try simp only [V.cnd, ne_eq] at hc7')
   have hsh : ¬ h < popsF l[i].k := by simpa using hc7
   have hok : opErr h l[i] = 0 := by unfold opErr; rw [if_neg hk1, if_neg (by rw [hlit]; simp), if_neg hform, if_neg hnn, if_neg hsh]
   refine CD.skip ?_
   refine CD.region ?_
   refine om_ ?_
   refine os_ (fa_ 0) ?_
   refine os_ (lb_ 0) ?_
   refine oc_ Tryd.call81 (pops_vp l[i].k) ?_
   refine os_ bn_ ?_
   refine os_ bn_ ?_
   refine om_ ?_
   refine on_ [(3, _), (11, _), (12, _), (13, _)] [⟨b5, 39, 5, [_, _, _, _, _]⟩] ?_
   refine CD.region ?_
   refine os_ bn_ ?_
   refine om_ ?_
   refine nm_ [3, 11, 12, 13] ?_
   refine ⟨((i + 1), (h + (1 - popsF l[i].k))), _, ?_, ?_, (by omega), (by rw [hx]; exact exprL_ok hlt hok), (by omega), (by have := pops_bd l[i].k; omega), rfl⟩
   ·first | omega | (simp only []; omega)
   exact Wk.asS (n := 73) rfl sv_ (by repeat (first | exact trivial | refine ⟨lq_, ?_⟩))
  have hc5' := hc5
  (try simp only [V.cnd, ne_eq] at hc5')
  have hnn : ¬ (l[i].k = 2 ∧ nameF l[i].nm ≠ 0) := by simp at hc5; simp [hc5]
  refine CD.skip ?_
  refine CD.seq ?_
  refine sr_ ?_
  refine om_ ?_
  refine os_ (fa_ 0) ?_
  refine os_ (lb_ 0) ?_
  refine oc_ Tryd.call81 (pops_vp l[i].k) ?_
  refine os_ bn_ ?_
  refine on_ [(3, _), (5, _), (11, _), (12, _), (13, _), (63, _)] [⟨b5, 39, 5, [_, _, _, _, _]⟩] ?_
  refine CD.cond ot (fun hc7 => ?_) (fun hc7 => ?_)
  ·have hc7' := hc7
   (try simp only [V.cnd, ne_eq] at hc7')
   have hsh : h < popsF l[i].k := by simpa using hc7
   have herr : opErr h l[i] = 7 := by unfold opErr; rw [if_neg hk1, if_neg (by rw [hlit]; simp), if_neg hform, if_neg hnn, if_pos hsh]
   refine sr_ ?_
   refine om_ ?_
   refine nm_ [2] ?_
   refine CD.ret ?_
   refine r1_ ?_
   refine ⟨vi ?_, rfl⟩
   first | exact hf.symm | (rw [hf, hx, exprL_no hlt herr (by first | assumption | decide)]; done) | (rw [hf, hend, if_pos (by simpa using hc8)]; done) | (rw [hf, hend, if_neg (by simpa using hc8)]; done)
  have hc7' := hc7
  (try simp only [V.cnd, ne_eq] at hc7')
  have hsh : ¬ h < popsF l[i].k := by simpa using hc7
  have hok : opErr h l[i] = 0 := by unfold opErr; rw [if_neg hk1, if_neg (by rw [hlit]; simp), if_neg hform, if_neg hnn, if_neg hsh]
  refine CD.skip ?_
  refine CD.region ?_
  refine om_ ?_
  refine os_ (fa_ 0) ?_
  refine os_ (lb_ 0) ?_
  refine oc_ Tryd.call81 (pops_vp l[i].k) ?_
  refine os_ bn_ ?_
  refine os_ bn_ ?_
  refine om_ ?_
  refine on_ [(3, _), (11, _), (12, _), (13, _)] [⟨b5, 39, 5, [_, _, _, _, _]⟩] ?_
  refine CD.region ?_
  refine os_ bn_ ?_
  refine om_ ?_
  refine nm_ [3, 11, 12, 13] ?_
  refine ⟨((i + 1), (h + (1 - popsF l[i].k))), _, ?_, ?_, (by omega), (by rw [hx]; exact exprL_ok hlt hok), (by omega), (by have := pops_bd l[i].k; omega), rfl⟩
  ·first | omega | (simp only []; omega)
  exact Wk.asS (n := 73) rfl sv_ (by repeat (first | exact trivial | refine ⟨lq_, ?_⟩))
 have hc1' := hc1
 (try simp only [V.cnd, ne_eq] at hc1')
 have hend := hx.trans (exprL_end (show l.length ≤ i by omega))
 refine CD.exit ?_
 refine CD.seq ?_
 refine sr_ ?_
 refine om_ ?_
 refine os_ bn_ ?_
 refine nm_ [72] ?_
 refine CD.cond ot (fun hc8 => ?_) (fun hc8 => ?_)
 ·have hc8' := hc8
  (try simp only [V.cnd, ne_eq] at hc8')
  refine sr_ ?_
  refine om_ ?_
  refine nm_ [2] ?_
  refine CD.ret ?_
  refine r1_ ?_
  refine ⟨vi ?_, rfl⟩
  first | exact hf.symm | (rw [hf, hx, exprL_no hlt herr (by first | assumption | decide)]; done) | (rw [hf, hend, if_pos (by simpa using hc8)]; done) | (rw [hf, hend, if_neg (by simpa using hc8)]; done)
 have hc8' := hc8
 (try simp only [V.cnd, ne_eq] at hc8')
 refine CD.skip ?_
 refine sr_ ?_
 refine om_ ?_
 refine nm_ [2] ?_
 refine CD.ret ?_
 refine r1_ ?_
 refine ⟨vi ?_, rfl⟩
 first | exact hf.symm | (rw [hf, hx, exprL_no hlt herr (by first | assumption | decide)]; done) | (rw [hf, hend, if_pos (by simpa using hc8)]; done) | (rw [hf, hend, if_neg (by simpa using hc8)]; done)

end Go.Proofs.YtjgekbmahhhokaaDoor.Nm

namespace Go.Proofs.YtjgekbmahhhokaaDoor.Pa
open Go.RowKit V Pk Go.Proofs.YtjgekbmahhhokaaDoor.Vl Go.Proofs.YtjgekbmahhhokaaDoor.Nm
set_option linter.unusedVariables false
set_option linter.unusedSimpArgs false

structure ColL where
 n : ByteArray
 k : Int
def cC (c : ColL) : List D := [.v (.string c.n), .v (.int .i64 c.k)]
theorem cC_len (c : ColL) : (cC c).length = 2 := rfl
theorem cC_one (c : ColL) : (cC c).all V.one = true := rfl
inductive Rs (α : Type) where
 | ok (v : α) (p : Nat) (ops : List OpL)
 | no (p : Nat) (e : Int)
 | stuck
def Rs.bind {α β : Type} (r : Rs α) (f : α → Nat → List OpL → Rs β) : Rs β := match r with
 | .ok v p ops => f v p ops
 | .no p e => .no p e
 | .stuck => .stuck
theorem bind_ok {α β : Type} (v : α) (p : Nat) (ops : List OpL) (f : α → Nat → List OpL → Rs β) : (Rs.ok v p ops).bind f = f v p ops := rfl
def isQ (l : List Tk) (p : Nat) (k : Int) (s : ByteArray) : Bool := if h : p < l.length then (l[p].k == k) && eqS l[p].s s else false
def gv {α : Type} (l : List Tk) (p : Nat) (e : Int) : Rs α := .no p (if l.length ≤ p then 7 else e)
def mustP (l : List Tk) : List ByteArray → Nat → List OpL → Rs Unit
 | [], p, ops => .ok () p ops
 | s :: r, p, ops => if isQ l p 1 s = true then mustP l r (p + 1) ops else gv l p 6
def markP (l : List Tk) (s : ByteArray) (p : Nat) (ops : List OpL) : Rs Unit := if isQ l p 4 s = true then .ok () (p + 1) ops else gv l p 6
def nameP (l : List Tk) (p : Nat) (ops : List OpL) : Rs ByteArray :=
 if h : p < l.length then (if l[p].k ≠ 1 then gv l p 6 else if nameF l[p].s ≠ 0 then gv l p (nameF l[p].s) else .ok l[p].s (p + 1) ops) else gv l p 6
def wNULL : ByteArray := ⟨#[78, 85, 76, 76]⟩
def wTRUE : ByteArray := ⟨#[84, 82, 85, 69]⟩
def wFALSE : ByteArray := ⟨#[70, 65, 76, 83, 69]⟩
def litP (l : List Tk) (p : Nat) (ops : List OpL) : Rs (Vl × Bool) :=
 if isQ l p 1 wNULL = true then .ok (noVl, true) (p + 1) ops
 else if isQ l p 1 wTRUE = true then .ok (⟨1, 1, ⟨#[]⟩⟩, true) (p + 1) ops
 else if isQ l p 1 wFALSE = true then .ok (⟨1, 0, ⟨#[]⟩⟩, true) (p + 1) ops
 else if h : p < l.length ∧ (l.getD p ⟨0, ⟨#[]⟩, 0⟩).k = 3 then (if (l[p]'h.1).s.size > 20 then gv l p 1 else .ok (⟨3, 0, (l[p]'h.1).s⟩, true) (p + 1) ops)
 else if isQ l p 4 ⟨#[45]⟩ = true then (if h : p + 1 < l.length ∧ (l.getD (p + 1) ⟨0, ⟨#[]⟩, 0⟩).k = 2 then .ok (⟨2, -(l[p + 1]'h.1).n, ⟨#[]⟩⟩, true) (p + 2) ops else gv l (p + 1) 6)
 else if h : p < l.length ∧ (l.getD p ⟨0, ⟨#[]⟩, 0⟩).k = 2 then .ok (⟨2, (l[p]'h.1).n, ⟨#[]⟩⟩, true) (p + 1) ops
 else .ok (noVl, false) p ops
def putP (l : List Tk) (o : OpL) (p : Nat) (ops : List OpL) : Rs Unit := if ops.length = 40 then gv l (p - 1) 10 else .ok () p (ops ++ [o])
def opN (k : Int) : OpL := ⟨k, noVl, ⟨#[]⟩⟩
inductive Lv where
 | prim | prod | prodL | sum | sumL | comp | not | and | andL | or | orL
def marksP : List (ByteArray × Int × Bool × Bool) := [(⟨#[61]⟩, 6, false, false), (⟨#[60, 62]⟩, 6, false, true), (⟨#[60]⟩, 7, false, false), (⟨#[62]⟩, 7, true, false), (⟨#[62, 61]⟩, 7, false, true), (⟨#[60, 61]⟩, 7, true, true)]
def swapP (ops : List OpL) (from_ mid : Nat) : List OpL := ops.take from_ ++ ops.drop mid ++ (ops.take mid).drop from_
def exP (l : List Tk) : Nat → Lv → Nat → List OpL → Rs Unit
 | 0, _, _, _ => .stuck
 | n + 1, .prim, p, ops => (litP l p ops).bind fun v p ops => if v.2 = true then putP l ⟨1, v.1, ⟨#[]⟩⟩ p ops
   else if isQ l p 4 ⟨#[40]⟩ = true then (exP l n .or (p + 1) ops).bind fun _ p ops => markP l ⟨#[41]⟩ p ops
   else (nameP l p ops).bind fun s p ops => putP l ⟨2, noVl, s⟩ p ops
 | n + 1, .prod, p, ops => (exP l n .prim p ops).bind fun _ p ops => exP l n .prodL p ops
 | n + 1, .prodL, p, ops => if isQ l p 4 ⟨#[42]⟩ = true then (exP l n .prim (p + 1) ops).bind fun _ p ops => (putP l (opN 10) p ops).bind fun _ p ops => exP l n .prodL p ops else .ok () p ops
 | n + 1, .sum, p, ops => (exP l n .prod p ops).bind fun _ p ops => exP l n .sumL p ops
 | n + 1, .sumL, p, ops => if isQ l p 4 ⟨#[43]⟩ = true then (exP l n .prod (p + 1) ops).bind fun _ p ops => (putP l (opN 8) p ops).bind fun _ p ops => exP l n .sumL p ops
   else if isQ l p 4 ⟨#[45]⟩ = true then (exP l n .prod (p + 1) ops).bind fun _ p ops => (putP l (opN 9) p ops).bind fun _ p ops => exP l n .sumL p ops
   else .ok () p ops
 | n + 1, .comp, p, ops => (exP l n .sum p ops).bind fun _ p1 ops1 =>
   if isQ l p1 1 ⟨#[73, 83]⟩ = true then (mustP l [wNULL] (if isQ l (p1 + 1) 1 ⟨#[78, 79, 84]⟩ = true then p1 + 2 else p1 + 1) ops1).bind fun _ p2 ops2 =>
    (putP l (opN 11) p2 ops2).bind fun _ p3 ops3 => if isQ l (p1 + 1) 1 ⟨#[78, 79, 84]⟩ = true then putP l (opN 5) p3 ops3 else .ok () p3 ops3
   else match marksP.find? fun m => isQ l p1 4 m.1 with
    | none => .ok () p1 ops1
    | some m => (exP l n .sum (p1 + 1) ops1).bind fun _ p2 ops2 => (putP l (opN m.2.1) p2 (if m.2.2.1 = true then swapP ops2 ops.length ops1.length else ops2)).bind fun _ p3 ops3 => if m.2.2.2 = true then putP l (opN 5) p3 ops3 else .ok () p3 ops3
 | n + 1, .not, p, ops => if isQ l p 1 ⟨#[78, 79, 84]⟩ = true then (exP l n .not (p + 1) ops).bind fun _ p ops => putP l (opN 5) p ops else exP l n .comp p ops
 | n + 1, .and, p, ops => (exP l n .not p ops).bind fun _ p ops => exP l n .andL p ops
 | n + 1, .andL, p, ops => if isQ l p 1 ⟨#[65, 78, 68]⟩ = true then (exP l n .not (p + 1) ops).bind fun _ p ops => (putP l (opN 3) p ops).bind fun _ p ops => exP l n .andL p ops else .ok () p ops
 | n + 1, .or, p, ops => (exP l n .and p ops).bind fun _ p ops => exP l n .orL p ops
 | n + 1, .orL, p, ops => if isQ l p 1 ⟨#[79, 82]⟩ = true then (exP l n .and (p + 1) ops).bind fun _ p ops => (putP l (opN 4) p ops).bind fun _ p ops => exP l n .orL p ops else .ok () p ops
structure StL where
 kind : Int
 table : ByteArray
 cols : List ColL
 row : List Vl
 names : List ByteArray
 count : Bool
 wher : List OpL
 order : ByteArray
 down : Bool
 limit : Int
 set : ByteArray
 to : List OpL
def st0 : StL := ⟨0, ⟨#[]⟩, [], [], [], false, [], ⟨#[]⟩, false, -1, ⟨#[]⟩, []⟩
def exprP (l : List Tk) (p : Nat) : Rs (List OpL) := (exP l (12 * l.length + 24) .or p []).bind fun _ p ops => .ok ops p ops
def whereP (l : List Tk) (p : Nat) (ops : List OpL) : Rs (List OpL) := if isQ l p 1 ⟨#[87, 72, 69, 82, 69]⟩ = true then exprP l (p + 1) else .ok [] p ops
def kindP (l : List Tk) (p : Nat) : Int := if isQ l p 1 ⟨#[84, 69, 88, 84]⟩ = true then 3 else if isQ l p 1 ⟨#[73, 78, 84]⟩ = true then 2 else if isQ l p 1 ⟨#[66, 79, 79, 76]⟩ = true then 1 else 0
def colsP (l : List Tk) : Nat → List ColL → Nat → List OpL → Rs (List ColL)
 | 0, _, _, _ => .stuck
 | n + 1, out, p, ops => if out.length = 6 then gv l p 10 else (nameP l p ops).bind fun s p1 ops1 =>
   if (out.any fun c => eqS c.n s) = true then gv l (p1 - 1) 9 else if kindP l p1 = 0 then gv l p1 6
   else if isQ l (p1 + 1) 4 ⟨#[44]⟩ = true then colsP l n (out ++ [⟨s, kindP l p1⟩]) (p1 + 2) ops1
   else (markP l ⟨#[41]⟩ (p1 + 1) ops1).bind fun _ p3 ops3 => .ok (out ++ [⟨s, kindP l p1⟩]) p3 ops3
def rowP (l : List Tk) : Nat → List Vl → Nat → List OpL → Rs (List Vl)
 | 0, _, _, _ => .stuck
 | n + 1, out, p, ops => if out.length = 6 then gv l p 10 else (litP l p ops).bind fun v p1 ops1 =>
   if v.2 = false then gv l p1 6
   else if isQ l p1 4 ⟨#[44]⟩ = true then rowP l n (out ++ [v.1]) (p1 + 1) ops1
   else (markP l ⟨#[41]⟩ p1 ops1).bind fun _ p3 ops3 => .ok (out ++ [v.1]) p3 ops3
def namesP (l : List Tk) : Nat → List ByteArray → Nat → List OpL → Rs (List ByteArray)
 | 0, _, _, _ => .stuck
 | n + 1, out, p, ops => if out.length = 6 then gv l p 10 else (nameP l p ops).bind fun s p1 ops1 =>
   if isQ l p1 4 ⟨#[44]⟩ = true then namesP l n (out ++ [s]) (p1 + 1) ops1 else .ok (out ++ [s]) p1 ops1
def headP (l : List Tk) (p : Nat) (ops : List OpL) : Rs (List ByteArray × Bool) :=
 if isQ l p 4 ⟨#[42]⟩ = true then .ok ([], false) (p + 1) ops
 else if isQ l p 1 ⟨#[67, 79, 85, 78, 84]⟩ = true then (markP l ⟨#[40]⟩ (p + 1) ops).bind fun _ p ops => (markP l ⟨#[42]⟩ p ops).bind fun _ p ops => (markP l ⟨#[41]⟩ p ops).bind fun _ p ops => .ok ([], true) p ops
 else (namesP l 8 [] p ops).bind fun ns p ops => .ok (ns, false) p ops
def ordP (l : List Tk) (s : StL) (p : Nat) (ops : List OpL) : Rs StL :=
 if isQ l p 1 ⟨#[79, 82, 68, 69, 82]⟩ = true then (mustP l [⟨#[66, 89]⟩] (p + 1) ops).bind fun _ p ops => (nameP l p ops).bind fun n p ops => .ok { s with order := n, down := isQ l p 1 ⟨#[68, 69, 83, 67]⟩ } (if isQ l p 1 ⟨#[68, 69, 83, 67]⟩ = true then p + 1 else p) ops else .ok s p ops
def limP (l : List Tk) (s : StL) (p : Nat) (ops : List OpL) : Rs StL :=
 if isQ l p 1 ⟨#[76, 73, 77, 73, 84]⟩ = true then (if h : p + 1 < l.length ∧ (l.getD (p + 1) ⟨0, ⟨#[]⟩, 0⟩).k = 2 then .ok { s with limit := (l[p + 1]'h.1).n } (p + 2) ops else gv l (p + 1) 6) else .ok s p ops
def tailP (l : List Tk) (s : StL) (p : Nat) (ops : List OpL) : Rs StL := (ordP l s p ops).bind (limP l)
def pickK (l : List Tk) (h : List ByteArray × Bool) (p : Nat) (ops : List OpL) : Rs StL := (mustP l [⟨#[70, 82, 79, 77]⟩] p ops).bind fun _ p ops => (nameP l p ops).bind fun t p ops => (whereP l p ops).bind fun w p ops =>
 tailP l { st0 with kind := 4, names := h.1, count := h.2, table := t, wher := w } p ops
def pickP (l : List Tk) (p : Nat) (ops : List OpL) : Rs StL := (headP l p ops).bind (pickK l)
def colsB (l : List Tk) (p : Nat) (ops : List OpL) : Rs (List ColL) := (markP l ⟨#[40]⟩ p ops).bind fun _ p ops => colsP l 8 [] p ops
def rowB (l : List Tk) (p : Nat) (ops : List OpL) : Rs (List Vl) := (markP l ⟨#[40]⟩ p ops).bind fun _ p ops => rowP l 8 [] p ops
def stP (l : List Tk) (p : Nat) (ops : List OpL) : Rs StL :=
 if isQ l p 1 ⟨#[67, 82, 69, 65, 84, 69]⟩ = true then (mustP l [⟨#[84, 65, 66, 76, 69]⟩] (p + 1) ops).bind fun _ p ops => (nameP l p ops).bind fun t p ops => (colsB l p ops).bind fun c p ops => .ok { st0 with kind := 1, table := t, cols := c } p ops
 else if isQ l p 1 ⟨#[68, 82, 79, 80]⟩ = true then (mustP l [⟨#[84, 65, 66, 76, 69]⟩] (p + 1) ops).bind fun _ p ops => (nameP l p ops).bind fun t p ops => .ok { st0 with kind := 2, table := t } p ops
 else if isQ l p 1 ⟨#[73, 78, 83, 69, 82, 84]⟩ = true then (mustP l [⟨#[73, 78, 84, 79]⟩] (p + 1) ops).bind fun _ p ops => (nameP l p ops).bind fun t p ops => (mustP l [⟨#[86, 65, 76, 85, 69, 83]⟩] p ops).bind fun _ p ops => (rowB l p ops).bind fun r p ops => .ok { st0 with kind := 3, table := t, row := r } p ops
 else if isQ l p 1 ⟨#[83, 69, 76, 69, 67, 84]⟩ = true then pickP l (p + 1) ops
 else if isQ l p 1 ⟨#[85, 80, 68, 65, 84, 69]⟩ = true then (nameP l (p + 1) ops).bind fun t p ops => (mustP l [⟨#[83, 69, 84]⟩] p ops).bind fun _ p ops => (nameP l p ops).bind fun c p ops => (markP l ⟨#[61]⟩ p ops).bind fun _ p ops => (exprP l p).bind fun e p ops => (whereP l p ops).bind fun w p ops => .ok { st0 with kind := 5, table := t, set := c, to := e, wher := w } p ops
 else if isQ l p 1 ⟨#[68, 69, 76, 69, 84, 69]⟩ = true then (mustP l [⟨#[70, 82, 79, 77]⟩] (p + 1) ops).bind fun _ p ops => (nameP l p ops).bind fun t p ops => (whereP l p ops).bind fun w p ops => .ok { st0 with kind := 6, table := t, wher := w } p ops
 else if isQ l p 1 ⟨#[66, 69, 71, 73, 78]⟩ = true then .ok { st0 with kind := 7 } (p + 1) ops
 else if isQ l p 1 ⟨#[67, 79, 77, 77, 73, 84]⟩ = true then .ok { st0 with kind := 8 } (p + 1) ops
 else if isQ l p 1 ⟨#[82, 79, 76, 76, 66, 65, 67, 75]⟩ = true then .ok { st0 with kind := 9 } (p + 1) ops
 else gv l p 6
def stZ : StL := { st0 with limit := 0 }
def badTk : List Tk → Nat → Option (Nat × Int)
 | [], _ => none
 | t :: r, i => if checkT t = 0 then badTk r (i + 1) else some (i, checkT t)
def parseF (l : List Tk) : StL × Nat × Int :=
 if l.length > 100 then (stZ, 0, 10)
 else match badTk l 0 with
  | some (i, e) => (stZ, i, e)
  | none => match (stP l 0 []).bind fun s p ops => if p < l.length then gv l p 6 else .ok s p ops with
   | .ok s _ _ => (s, 0, 0)
   | .no p e => (stZ, p, e)
   | .stuck => (stZ, 0, 0)

end Go.Proofs.YtjgekbmahhhokaaDoor.Pa

namespace Go.Proofs.YtjgekbmahhhokaaDoor.Pa
open Go.RowKit V Pk Go.Proofs.YtjgekbmahhhokaaDoor.Vl Go.Proofs.YtjgekbmahhhokaaDoor.Nm
set_option linter.unusedVariables false
set_option linter.unusedSimpArgs false

variable {G : List (Nat × List Value)}
theorem perm_all (S : List Blk) : S.Perm (S ++ []) := by rw [List.append_nil]
def wrC (p : Nat) (e : Int) : List PanicEntry := [{ v := .iface 67 (.agg #[.int .i64 (p : Nat), .int .i64 e]), recovered := false }]
theorem rep_flat {w : World} {L : Nat → Prop} : ∀ {vs us : List Value}, RepL w L (vs.map D.v) us → us = vs
 | [], [], _ => rfl
 | [], u :: us, h => by have := h.1; simp at this
 | v :: vs, [], h => by have := h.1; simp at this
 | v :: vs, u :: us, h => by
  obtain ⟨h1, h2⟩ := RepL.tail h
  rw [h1.v_eq, rep_flat h2]
theorem still_iface {P : Program} {x : St} {o : Oper} {t : TypeId} {y : Operand} {vs : List Value} {fs : Array Field} (ho : o.op = .makeInterface t y) (hy : opd x y = .agg (vs.map D.v)) (hu : P.underlying t = some (.struct fs)) : Still P G x o .none (.v (.iface t (.agg vs.toArray))) := fun C a w _ h => by
 have he : a.eval y = .agg vs.toArray := by
  have := h.eval y
  rw [hy] at this
  generalize a.eval y = u at this
  cases this with
  | agg _ us hl hr => rw [rep_flat ⟨hl, hr⟩]
 refine ⟨_, .v _, fun w' _ => ?_⟩
 unfold execOp
 simp only [ho, Instr.makeInterface, Sem.run_bind, run_underlying hu, Result.andThen_ok, Sem.run_pure, he]
theorem isQ_F {l : List Tk} {p : Nat} {k : Int} {s : ByteArray} (h : ¬ p < l.length) : isQ l p k s = false := by unfold isQ; rw [dif_neg h]
theorem isQ_T {l : List Tk} {p : Nat} {k : Int} {s : ByteArray} (h : p < l.length) : isQ l p k s = ((l[p].k == k) && eqS l[p].s s) := by unfold isQ; rw [dif_pos h]
theorem isQ_lt {l : List Tk} {p : Nat} {k : Int} {s : ByteArray} (h : isQ l p k s = true) : p < l.length := by
 unfold isQ at h; split at h
 ·assumption
 cases h
set_option maxHeartbeats 4000000 in
set_option maxRecDepth 100000 in
theorem is_vc (l : List Tk) (hl : l.length ≤ 100) (p : Nat) (k : Int) (s : ByteArray) (ad : Option Addr) (n cap br : Nat) : VC Tryd.prog G 73 [.v (.pointer (some ⟨br, 0, none⟩)), .v (.int .i64 k), .v (.string s)] [⟨br, 70, 3, [.list 3 (l.flatMap cT) l.length, .v (.int .i64 ((p : Nat) : Int)), .v (.slice ad n cap)]⟩] (fun r S' => r = .v (.bool (isQ l p k s)) ∧ S' = [⟨br, 70, 3, [.list 3 (l.flatMap cT) l.length, .v (.int .i64 ((p : Nat) : Int)), .v (.slice ad n cap)]⟩]) := by
 refine VC.body Tryd.func73 rfl Tryd.ntmps73 le_ fun X0 w0 S00 => ?_
 have hlt0 : p < l.length ∨ ¬ p < l.length := by omega
 refine sr_ ?_
 refine om_ ?_
 refine nm_ [0, 1, 2] ?_
 refine CD.seq ?_
 refine CD.draw (bks _) kr_ (fun _ h => h) ?_
 refine a0_ 0 rfl mv_ ?_
 refine a0_ 1 rfl nc_ ?_
 refine a0_ 2 rfl (fa_ 1) ?_
 refine a0_ 3 rfl (lb_ 0) ?_
 refine a0_ 4 rfl mv_ ?_
 refine a0_ 5 rfl nc_ ?_
 refine a0_ 6 rfl (fa_ 0) ?_
 refine a0_ 7 rfl (lb_ 0) ?_
 refine a0_ 8 rfl ln_ ?_
 refine a0_ 9 rfl bn_ ?_
 refine a0_ 10 rfl mv_ ?_
 refine AD0.split (t := 17) lk (fun hg17 => ?_) (fun hg17 => ?_)
 ·have hg17' := hg17; (try simp only [V.cnd, ne_eq] at hg17')
  refine a0_ 11 rfl mv_ ?_
  refine a0_ 12 rfl nc_ ?_
  refine a0_ 13 rfl (fa_ 0) ?_
  refine a0_ 14 rfl (lb_ 0) ?_
  refine a0_ 15 rfl mv_ ?_
  refine a0_ 16 rfl nc_ ?_
  refine a0_ 17 rfl (fa_ 1) ?_
  refine a0_ 18 rfl (lb_ 0) ?_
  refine a0_ 19 rfl (ix_ 3 (h := by first | exact .l (j := p) rfl (by simp at hg17; exact hg17) | exact .r (j := p) rfl (by simp at hg17; exact hg17))) ?_
  refine a0_ 20 rfl (fa_ 0) ?_
  refine a0_ 21 rfl (still_r1 (mk := Op.load 3) rfl ot (by exact ld_fm0 (i := p) cT_len Tryd.isAgg3 (by simp at hg17; exact hg17) rfl)) ?_
  refine a0_ 22 rfl mv_ ?_
  refine a0_ 23 rfl bn_ ?_
  refine a0_ 24 rfl pkT_ ?_
  refine a0_ 25 rfl mv_ ?_
  refine AD0.split (t := 32) lk (fun hg32 => ?_) (fun hg32 => ?_)
  ·have hg32' := hg32; (try simp only [V.cnd, ne_eq] at hg32')
   refine a0_ 26 rfl mv_ ?_
   refine a0_ 27 rfl nc_ ?_
   refine a0_ 28 rfl (fa_ 0) ?_
   refine a0_ 29 rfl (lb_ 0) ?_
   refine a0_ 30 rfl mv_ ?_
   refine a0_ 31 rfl nc_ ?_
   refine a0_ 32 rfl (fa_ 1) ?_
   refine a0_ 33 rfl (lb_ 0) ?_
   refine a0_ 34 rfl (ix_ 3 (h := by first | exact .l (j := p) rfl (by simp at hg17; exact hg17) | exact .r (j := p) rfl (by simp at hg17; exact hg17))) ?_
   refine a0_ 35 rfl (fa_ 1) ?_
   refine a0_ 36 rfl (still_r1 (mk := Op.load 9) rfl ot (by exact ld_fm (i := p) (j := 1) cT_len Tryd.isAgg9 (by simp at hg17; exact hg17) rfl)) ?_
   refine a0_ 37 rfl mv_ ?_
   refine a0_ 38 rfl bn_ ?_
   refine a0_ 39 rfl pkT_ ?_
   refine a0_ 40 rfl mv_ ?_
   refine AD0.later rfl ?_
   refine aw_ [(6, _)] [⟨br, 70, 3, [_, _, _]⟩] ?_
   refine AD.done kr_ ?_
   refine CD.ret ?_
   refine ⟨.inr rfl, _, [_], List.Sublist.refl _, ret_one Tryd.results73 (res_tmp le_ lk), ?_⟩
   refine ⟨vb ?_, rfl⟩
   rcases hlt0 with hlt0 | hlt0
   ·rw [isQ_T hlt0]; unfold eqS; simp_all
   first | (rw [isQ_F hlt0]; done) | (rw [isQ_F hlt0]; simp_all)
  have hg32' := hg32; (try simp only [V.cnd, ne_eq] at hg32')
  refine s0_ 26 rfl ?_
  refine s0_ 27 rfl ?_
  refine s0_ 28 rfl ?_
  refine s0_ 29 rfl ?_
  refine s0_ 30 rfl ?_
  refine s0_ 31 rfl ?_
  refine s0_ 32 rfl ?_
  refine s0_ 33 rfl ?_
  refine s0_ 34 rfl ?_
  refine s0_ 35 rfl ?_
  refine s0_ 36 rfl ?_
  refine s0_ 37 rfl ?_
  refine s0_ 38 rfl ?_
  refine a0_ 39 rfl pkF_ ?_
  refine a0_ 40 rfl mv_ ?_
  refine AD0.later rfl ?_
  refine aw_ [(6, _)] [⟨br, 70, 3, [_, _, _]⟩] ?_
  refine AD.done kr_ ?_
  refine CD.ret ?_
  refine ⟨.inr rfl, _, [_], List.Sublist.refl _, ret_one Tryd.results73 (res_tmp le_ lk), ?_⟩
  refine ⟨vb ?_, rfl⟩
  rcases hlt0 with hlt0 | hlt0
  ·rw [isQ_T hlt0]; unfold eqS; simp_all
  first | (rw [isQ_F hlt0]; done) | (rw [isQ_F hlt0]; simp_all)
 have hg17' := hg17; (try simp only [V.cnd, ne_eq] at hg17')
 refine s0_ 11 rfl ?_
 refine s0_ 12 rfl ?_
 refine s0_ 13 rfl ?_
 refine s0_ 14 rfl ?_
 refine s0_ 15 rfl ?_
 refine s0_ 16 rfl ?_
 refine s0_ 17 rfl ?_
 refine s0_ 18 rfl ?_
 refine s0_ 19 rfl ?_
 refine s0_ 20 rfl ?_
 refine s0_ 21 rfl ?_
 refine s0_ 22 rfl ?_
 refine s0_ 23 rfl ?_
 refine a0_ 24 rfl pkF_ ?_
 refine a0_ 25 rfl mv_ ?_
 refine s0_ 26 rfl ?_
 refine s0_ 27 rfl ?_
 refine s0_ 28 rfl ?_
 refine s0_ 29 rfl ?_
 refine s0_ 30 rfl ?_
 refine s0_ 31 rfl ?_
 refine s0_ 32 rfl ?_
 refine s0_ 33 rfl ?_
 refine s0_ 34 rfl ?_
 refine s0_ 35 rfl ?_
 refine s0_ 36 rfl ?_
 refine s0_ 37 rfl ?_
 refine s0_ 38 rfl ?_
 refine a0_ 39 rfl pkF_ ?_
 refine a0_ 40 rfl mv_ ?_
 refine AD0.later rfl ?_
 refine aw_ [(6, _)] [⟨br, 70, 3, [_, _, _]⟩] ?_
 refine AD.done kr_ ?_
 refine CD.ret ?_
 refine ⟨.inr rfl, _, [_], List.Sublist.refl _, ret_one Tryd.results73 (res_tmp le_ lk), ?_⟩
 refine ⟨vb ?_, rfl⟩
 rcases hlt0 with hlt0 | hlt0
 ·rw [isQ_T hlt0]; unfold eqS; simp_all
 first | (rw [isQ_F hlt0]; done) | (rw [isQ_F hlt0]; simp_all)

set_option maxHeartbeats 4000000 in
set_option maxRecDepth 100000 in
theorem eat_vc (l : List Tk) (hl : l.length ≤ 100) (p : Nat) (k : Int) (s : ByteArray) (ad : Option Addr) (n cap br : Nat) : VC Tryd.prog G 43 [.v (.pointer (some ⟨br, 0, none⟩)), .v (.int .i64 k), .v (.string s)] [⟨br, 70, 3, [.list 3 (l.flatMap cT) l.length, .v (.int .i64 ((p : Nat) : Int)), .v (.slice ad n cap)]⟩] (fun r S' => r = .v (.bool (isQ l p k s)) ∧ S' = [⟨br, 70, 3, [.list 3 (l.flatMap cT) l.length, .v (.int .i64 (((if isQ l p k s = true then p + 1 else p) : Nat) : Int)), .v (.slice ad n cap)]⟩]) := by
 refine VC.body Tryd.func43 rfl Tryd.ntmps43 le_ fun X0 w0 S00 => ?_
 refine sr_ ?_
 refine om_ ?_
 refine nm_ [0, 1, 2] ?_
 refine CD.seq ?_
 refine sr_ ?_
 refine om_ ?_
 refine om_ ?_
 refine om_ ?_
 refine OD.call wp_ rfl rfl rfl Tryd.call73 (is_vc l hl p k s ad n cap br) ⟨ot, ot, ot, trivial⟩ (perm_all _) ?_
 rintro _ _ ⟨rfl, rfl⟩
 refine OD.perm (S' := [⟨br, 70, 3, [.list 3 (l.flatMap cT) l.length, .v (.int .i64 ((p : Nat) : Int)), .v (.slice ad n cap)]⟩]) (List.Perm.refl _) ?_
 refine os_ un_ ?_
 refine on_ [(0, _), (11, _)] [⟨br, 70, 3, [_, _, _]⟩] ?_
 refine CD.cond ot (fun hc0 => ?_) (fun hc0 => ?_)
 ·have hc0' := hc0
  (try simp only [V.cnd, ne_eq] at hc0')
  have hf : isQ l p k s = false := by simpa using hc0
  refine sr_ ?_
  refine om_ ?_
  refine nm_ [6] ?_
  refine CD.ret ?_
  refine ⟨.inr rfl, _, [_], List.Sublist.refl _, ret_one Tryd.results43 (res_tmp le_ lk), ?_⟩
  first | (rw [hf]; exact ⟨rfl, rfl⟩) | (rw [ht]; exact ⟨rfl, rfl⟩)
 have hc0' := hc0
 (try simp only [V.cnd, ne_eq] at hc0')
 have ht : isQ l p k s = true := by simpa using hc0
 have hlt := isQ_lt ht
 refine CD.skip ?_
 refine sr_ ?_
 refine om_ ?_
 refine os_ nc_ ?_
 refine os_ (fa_ 1) ?_
 refine os_ (lb_ 0) ?_
 refine os_ bn_ ?_
 refine os_ nc_ ?_
 refine os_ (fa_ 1) ?_
 refine ot_ 0 [_, _, _] Tryd.sizeOf3 ?_
 refine on_ [] [⟨br, 70, 3, [_, _, _]⟩] ?_
 refine sr_ ?_
 refine om_ ?_
 refine nm_ [6] ?_
 refine CD.ret ?_
 refine ⟨.inr rfl, _, [_], List.Sublist.refl _, ret_one Tryd.results43 (res_tmp le_ lk), ?_⟩
 first | (rw [hf]; exact ⟨rfl, rfl⟩) | (rw [ht]; exact ⟨rfl, rfl⟩)

theorem places67_Pa2 : ∀ w, ((#[{ name := "at", type := 3, offset := 0, embedded := false, tag := "", pkgPath := "padlock/parse", byteOffset := 0 }, { name := "e", type := 33, offset := 1, embedded := false, tag := "", pkgPath := "padlock/parse", byteOffset := 8 }] : Array Field).mapM fun f => do pure (f.offset, ← sizeOf f.type) : Sem (Array (Nat × Nat))).run Tryd.prog w = .ok #[(0, 1), (1, 1)] w := fun w => by simp [Tryd.sizeOf3, Tryd.sizeOf33]

set_option maxHeartbeats 4000000 in
set_option maxRecDepth 100000 in
theorem give_vx (l : List Tk) (hl : l.length ≤ 100) (p : Nat) (e : Int) (ad : Option Addr) (n cap br : Nat) : VX Tryd.prog G 26 [.v (.pointer (some ⟨br, 0, none⟩)), .v (.int .i64 e)] [⟨br, 70, 3, [.list 3 (l.flatMap cT) l.length, .v (.int .i64 ((p : Nat) : Int)), .v (.slice ad n cap)]⟩] (fun _ _ => False) (fun ch => ch = wrC p (if l.length ≤ p then 7 else e)) := by
 refine VX.body Tryd.func26 rfl Tryd.ntmps26 le_ fun X0 w0 S00 => ?_
 refine CD.seq ?_
 refine CD.seq ?_
 refine CD.draw (bks _) kr_ (fun _ h => h) ?_
 refine a0_ 0 rfl mv_ ?_
 refine a0_ 1 rfl nc_ ?_
 refine a0_ 2 rfl (fa_ 1) ?_
 refine a0_ 3 rfl (lb_ 0) ?_
 refine a0_ 4 rfl mv_ ?_
 refine a0_ 5 rfl nc_ ?_
 refine a0_ 6 rfl (fa_ 0) ?_
 refine a0_ 7 rfl (lb_ 0) ?_
 refine a0_ 8 rfl ln_ ?_
 refine a0_ 9 rfl bn_ ?_
 refine AD0.later rfl ?_
 refine aw_ [(0, _), (1, _), (13, _)] [⟨br, 70, 3, [_, _, _]⟩] ?_
 refine AD.done kr_ ?_
 refine CD.cond ot (fun hc0 => ?_) (fun hc0 => ?_)
 ·have hc0' := hc0
  (try simp only [V.cnd, ne_eq] at hc0')
  have hle : l.length ≤ p := by simp at hc0; omega
  rw [if_pos hle]
  refine CD.region ?_
  refine om_ ?_
  refine nm_ [0, 1] ?_
  refine CD.region ?_
  refine om_ ?_
  refine os_ nc_ ?_
  refine os_ (fa_ 1) ?_
  refine os_ (lb_ 0) ?_
  refine om_ ?_
  refine os_ (still_bld (pl := [(0, _), (1, _)]) (ds := [_, _]) rfl Tryd.zeroValue67 Tryd.runUnderlying67 places67_Pa2 ⟨rfl, ot, rfl, ot, trivial⟩ rfl rfl) ?_
  refine os_ (still_iface (vs := [.int .i64 (p : Nat), .int .i64 _]) rfl ot Tryd.underlying67) ?_
  refine OD.panic wp_ rfl ot ?_
  exact Or.inr ⟨_, rfl, rfl⟩
 have hc0' := hc0
 (try simp only [V.cnd, ne_eq] at hc0')
 have hle : ¬ l.length ≤ p := by simp at hc0; omega
 rw [if_neg hle]
 refine CD.skip ?_
 refine CD.region ?_
 refine om_ ?_
 refine os_ nc_ ?_
 refine os_ (fa_ 1) ?_
 refine os_ (lb_ 0) ?_
 refine om_ ?_
 refine os_ (still_bld (pl := [(0, _), (1, _)]) (ds := [_, _]) rfl Tryd.zeroValue67 Tryd.runUnderlying67 places67_Pa2 ⟨rfl, ot, rfl, ot, trivial⟩ rfl rfl) ?_
 refine os_ (still_iface (vs := [.int .i64 (p : Nat), .int .i64 _]) rfl ot Tryd.underlying67) ?_
 refine OD.panic wp_ rfl ot ?_
 exact Or.inr ⟨_, rfl, rfl⟩

theorem must_step {l : List Tk} {ss : List ByteArray} {i q : Nat} (hi : i < ss.length) (ht : isQ l q 1 ss[i] = true) (ops : List OpL) : mustP l (ss.drop i) q ops = mustP l (ss.drop (i + 1)) (q + 1) ops := by
 rw [List.drop_eq_getElem_cons hi, mustP, if_pos ht]
theorem must_no {l : List Tk} {ss : List ByteArray} {i q : Nat} (hi : i < ss.length) (hf : isQ l q 1 ss[i] = false) (ops : List OpL) : mustP l (ss.drop i) q ops = gv l q 6 := by
 rw [List.drop_eq_getElem_cons hi, mustP, if_neg (by rw [hf]; decide)]

set_option maxHeartbeats 4000000 in
set_option maxRecDepth 100000 in
theorem mark_vx (l : List Tk) (hl : l.length ≤ 100) (p : Nat) (s : ByteArray) (ad : Option Addr) (n cap br : Nat) : VX Tryd.prog G 49 [.v (.pointer (some ⟨br, 0, none⟩)), .v (.string s)] [⟨br, 70, 3, [.list 3 (l.flatMap cT) l.length, .v (.int .i64 ((p : Nat) : Int)), .v (.slice ad n cap)]⟩] (fun r S' => isQ l p 4 s = true ∧ S' = [⟨br, 70, 3, [.list 3 (l.flatMap cT) l.length, .v (.int .i64 (((p + 1) : Nat) : Int)), .v (.slice ad n cap)]⟩]) (fun ch => isQ l p 4 s = false ∧ ch = wrC p (if l.length ≤ p then 7 else 6)) := by
 refine VX.body Tryd.func49 rfl Tryd.ntmps49 le_ fun X0 w0 S00 => ?_
 refine sr_ ?_
 refine om_ ?_
 refine om_ ?_
 refine OD.call wp_ rfl rfl rfl Tryd.call43 (eat_vc l hl p 4 s ad n cap br) ⟨ot, opd_const, ot, trivial⟩ (perm_all _) ?_
 rintro _ _ ⟨rfl, rfl⟩
 refine OD.perm (S' := [⟨br, 70, 3, [.list 3 (l.flatMap cT) l.length, .v (.int .i64 (((if isQ l p 4 s = true then p + 1 else p) : Nat) : Int)), .v (.slice ad n cap)]⟩]) (List.Perm.refl _) ?_
 refine os_ un_ ?_
 refine on_ [(0, _), (7, _)] [⟨br, 70, 3, [_, _, _]⟩] ?_
 refine CD.cond ot (fun hc0 => ?_) (fun hc0 => ?_)
 ·have hc0' := hc0
  (try simp only [V.cnd, ne_eq] at hc0')
  have hf : isQ l p 4 s = false := by simpa using hc0
  rw [hf]
  simp only [Bool.false_eq_true, if_false]
  refine CD.region ?_
  refine om_ ?_
  exact OD.callX wp_ rfl rfl rfl Tryd.call26 (give_vx l hl p 6 ad n cap br) ⟨ot, opd_const, trivial⟩ (perm_all _) (fun ch hch => (Or.inr ⟨ch, rfl, ⟨by first | exact hf | trivial, hch⟩⟩ : BodyX _ _ _ _ _ _)) (fun r S' h => h.elim)
 have hc0' := hc0
 (try simp only [V.cnd, ne_eq] at hc0')
 have ht : isQ l p 4 s = true := by simpa using hc0
 rw [ht]
 simp only [if_true]
 refine CD.skip ?_
 refine Or.inl ?_
 refine ⟨.inl rfl, _, [_], List.Sublist.refl _, ret_none Tryd.results49 , ?_⟩
 exact ⟨by first | exact ht | trivial, rfl⟩

end Go.Proofs.YtjgekbmahhhokaaDoor.Pa

namespace Go.Proofs.YtjgekbmahhhokaaDoor.Pa
open Go.RowKit V Pk Go.Proofs.YtjgekbmahhhokaaDoor.Vl Go.Proofs.YtjgekbmahhhokaaDoor.Nm
set_option linter.unusedVariables false
set_option linter.unusedSimpArgs false

variable {G : List (Nat × List Value)}
theorem name_no1 {l : List Tk} {p : Nat} (h : l.length ≤ p) (ops : List OpL) : nameP l p ops = gv l p 6 := by unfold nameP; rw [dif_neg (by omega)]
theorem name_no2 {l : List Tk} {p : Nat} (h : p < l.length) (hk : l[p].k ≠ 1) (ops : List OpL) : nameP l p ops = gv l p 6 := by unfold nameP; rw [dif_pos h, if_pos hk]
theorem tk_at {l : List Tk} {p : Nat} (h : p < l.length) : l.getD p ⟨0, ⟨#[]⟩, 0⟩ = l[p] := by rw [List.getD_eq_getElem?_getD, List.getElem?_eq_getElem h]; rfl

set_option maxHeartbeats 4000000 in
set_option maxRecDepth 100000 in
theorem must_vx (l : List Tk) (hl : l.length ≤ 100) (ss : List ByteArray) (hss : ss.length ≤ 100) (p : Nat) (ad : Option Addr) (n cap br : Nat) : VX Tryd.prog G 44 [.v (.pointer (some ⟨br, 0, none⟩)), .list 1 (ss.flatMap cS) ss.length] [⟨br, 70, 3, [.list 3 (l.flatMap cT) l.length, .v (.int .i64 ((p : Nat) : Int)), .v (.slice ad n cap)]⟩] (fun r S' => ∃ q, (∀ ops, mustP l ss p ops = .ok () q ops) ∧ S' = [⟨br, 70, 3, [.list 3 (l.flatMap cT) l.length, .v (.int .i64 ((q : Nat) : Int)), .v (.slice ad n cap)]⟩]) (fun ch => ∃ q e, (∀ ops, mustP l ss p ops = .no q e) ∧ ch = wrC q e) := by
 refine VX.body Tryd.func44 rfl Tryd.ntmps44 le_ fun X0 w0 S00 => ?_
 refine sr_ ?_
 refine om_ ?_
 refine os_ ln_ ?_
 refine om_ ?_
 refine nm_ [0, 6, 7, 8] ?_
 refine CD.block ?_
 refine lp_ (fun (gh__ : Nat × Nat) y__ => match gh__ with | (i, q) => (i ≤ ss.length) ∧ (∀ ops, mustP l ss p ops = mustP l (ss.drop i) q ops) ∧ y__ = (⟨19, [(0, .v (.pointer (some ⟨br, 0, none⟩))), (6, .list 1 (ss.flatMap cS) ss.length), (7, .v (.int .i64 ss.length)), (8, .v (.int .i64 (i : Nat)))], [⟨br, 70, 3, [.list 3 (l.flatMap cT) l.length, .v (.int .i64 ((q : Nat) : Int)), .v (.slice ad n cap)]⟩]⟩ : St)) (fun (gh__ : Nat × Nat) => match gh__ with | (i, q) => ss.length - i) (0, p) ⟨(Nat.zero_le _), (fun ops => by rw [List.drop_zero]), rfl⟩ (Wk.asS rfl sv_ sq_) ?_
 rintro ⟨i, q⟩ _ ⟨hi, hq, rfl⟩
 refine sr_ ?_
 refine os_ bn_ ?_
 refine nm_ [0, 6, 7, 8, 9] ?_
 refine CD.seq ?_
 refine CD.cond ot (fun hc0 => ?_) (fun hc0 => ?_)
 ·have hc0' := hc0
  (try simp only [V.cnd, ne_eq] at hc0')
  have hlt : i < ss.length := by simp at hc0; omega
  refine CD.skip ?_
  refine CD.seq ?_
  refine CD.block ?_
  refine sr_ ?_
  refine os_ (ix_ 1 (h := by first | exact .l (j := i) rfl hlt | exact .r (j := i) rfl hlt)) ?_
  refine os_ ld_ ?_
  refine om_ ?_
  refine nm_ [0, 5, 6, 7, 8] ?_
  refine sr_ ?_
  refine om_ ?_
  refine om_ ?_
  refine OD.call wp_ rfl rfl rfl Tryd.call43 (eat_vc l hl q 1 ss[i] ad n cap br) ⟨ot, opd_const, ot, trivial⟩ (perm_all _) ?_
  rintro _ _ ⟨rfl, rfl⟩
  refine OD.perm (S' := [⟨br, 70, 3, [.list 3 (l.flatMap cT) l.length, .v (.int .i64 (((if isQ l q 1 ss[i] = true then q + 1 else q) : Nat) : Int)), .v (.slice ad n cap)]⟩]) (List.Perm.refl _) ?_
  refine os_ un_ ?_
  refine on_ [(0, _), (6, _), (7, _), (8, _), (15, _)] [⟨br, 70, 3, [_, _, _]⟩] ?_
  refine CD.cond ot (fun hc1 => ?_) (fun hc1 => ?_)
  ·have hc1' := hc1
   (try simp only [V.cnd, ne_eq] at hc1')
   have hf1 : isQ l q 1 ss[i] = false := by simpa using hc1
   rw [hf1]
   simp only [Bool.false_eq_true, if_false]
   refine CD.region ?_
   refine om_ ?_
   exact OD.callX wp_ rfl rfl rfl Tryd.call26 (give_vx l hl q 6 ad n cap br) ⟨ot, opd_const, trivial⟩ (perm_all _) (fun ch hch => (Or.inr ⟨ch, rfl, ⟨q, _, fun ops => by rw [hq, must_no hlt hf1]; rfl, hch⟩⟩ : BodyX _ _ _ _ _ _)) (fun r S' h => h.elim)
  have hc1' := hc1
  (try simp only [V.cnd, ne_eq] at hc1')
  have ht1 : isQ l q 1 ss[i] = true := by simpa using hc1
  rw [ht1]
  simp only [if_true]
  refine CD.skip ?_
  refine CD.region ?_
  refine os_ bn_ ?_
  refine om_ ?_
  refine nm_ [0, 6, 7, 8] ?_
  refine ⟨((i + 1), (q + 1)), _, ?_, ?_, (by omega), (fun ops => by rw [hq, must_step hlt ht1]), rfl⟩
  ·first | omega | (simp only []; omega)
  exact Wk.asS (n := 19) rfl sv_ sq_
 have hc0' := hc0
 (try simp only [V.cnd, ne_eq] at hc0')
 have hie : ss.length ≤ i := by simp at hc0; omega
 refine CD.exit ?_
 refine Or.inl ?_
 refine ⟨.inl rfl, _, [_], List.Sublist.refl _, ret_none Tryd.results44 , ?_⟩
 exact ⟨q, fun ops => by rw [hq, List.drop_of_length_le hie]; rfl, rfl⟩

set_option maxHeartbeats 4000000 in
set_option maxRecDepth 100000 in
theorem name_vx (hm : (0, marksC) ∈ G) (hw : (2, wordsC) ∈ G) (l : List Tk) (hl : l.length ≤ 100) (ht : ∀ t ∈ l, t.s.size ≤ maxLen ∧ (t.k = 2 → 0 ≤ t.n ∧ t.n ≤ 9223372036854775807)) (p : Nat) (ad : Option Addr) (n cap br : Nat) : VX Tryd.prog G 45 [.v (.pointer (some ⟨br, 0, none⟩))] [⟨br, 70, 3, [.list 3 (l.flatMap cT) l.length, .v (.int .i64 ((p : Nat) : Int)), .v (.slice ad n cap)]⟩] (fun r S' => ∃ s, (∀ ops, nameP l p ops = .ok s (p + 1) ops) ∧ r = .v (.string s) ∧ S' = [⟨br, 70, 3, [.list 3 (l.flatMap cT) l.length, .v (.int .i64 (((p + 1) : Nat) : Int)), .v (.slice ad n cap)]⟩]) (fun ch => ∃ q e, (∀ ops, nameP l p ops = .no q e) ∧ ch = wrC q e) := by
 refine VX.body Tryd.func45 rfl Tryd.ntmps45 le_ fun X0 w0 S00 => ?_
 refine sr_ ?_
 refine om_ ?_
 refine nm_ [0] ?_
 refine CD.seq ?_
 refine CD.seq ?_
 refine CD.draw (bks _) kr_ (fun _ h => h) ?_
 refine a0_ 0 rfl mv_ ?_
 refine a0_ 1 rfl nc_ ?_
 refine a0_ 2 rfl (fa_ 1) ?_
 refine a0_ 3 rfl (lb_ 0) ?_
 refine a0_ 4 rfl mv_ ?_
 refine a0_ 5 rfl nc_ ?_
 refine a0_ 6 rfl (fa_ 0) ?_
 refine a0_ 7 rfl (lb_ 0) ?_
 refine a0_ 8 rfl ln_ ?_
 refine a0_ 9 rfl bn_ ?_
 refine a0_ 10 rfl mv_ ?_
 refine AD0.split (t := 15) lk (fun hg15 => ?_) (fun hg15 => ?_)
 ·have hg15' := hg15; (try simp only [V.cnd, ne_eq] at hg15')
  refine s0_ 11 rfl ?_
  refine s0_ 12 rfl ?_
  refine s0_ 13 rfl ?_
  refine s0_ 14 rfl ?_
  refine s0_ 15 rfl ?_
  refine s0_ 16 rfl ?_
  refine s0_ 17 rfl ?_
  refine s0_ 18 rfl ?_
  refine s0_ 19 rfl ?_
  refine s0_ 20 rfl ?_
  refine s0_ 21 rfl ?_
  refine s0_ 22 rfl ?_
  refine a0_ 23 rfl pkT_ ?_
  refine AD0.later rfl ?_
  refine aw_ [(0, _), (28, _)] [⟨br, 70, 3, [_, _, _]⟩] ?_
  refine AD.done kr_ ?_
  refine CD.condT ot (by first | rfl | assumption) ?_
  have hno : ∀ ops, nameP l p ops = gv l p 6 := by first | exact name_no1 (by simp at hg15; omega) | exact name_no2 (by simp at hg15; exact hg15) (by simpa using hc0)
  refine CD.region ?_
  refine om_ ?_
  exact OD.callX wp_ rfl rfl rfl Tryd.call26 (give_vx l hl p 6 ad n cap br) ⟨ot, opd_const, trivial⟩ (perm_all _) (fun ch hch => (Or.inr ⟨ch, rfl, ⟨p, _, fun ops => by rw [hno]; rfl, hch⟩⟩ : BodyX _ _ _ _ _ _)) (fun r S' h => h.elim)
 have hg15' := hg15; (try simp only [V.cnd, ne_eq] at hg15')
 refine a0_ 11 rfl mv_ ?_
 refine a0_ 12 rfl nc_ ?_
 refine a0_ 13 rfl (fa_ 0) ?_
 refine a0_ 14 rfl (lb_ 0) ?_
 refine a0_ 15 rfl mv_ ?_
 refine a0_ 16 rfl nc_ ?_
 refine a0_ 17 rfl (fa_ 1) ?_
 refine a0_ 18 rfl (lb_ 0) ?_
 refine a0_ 19 rfl (ix_ 3 (h := by first | exact .l (j := p) rfl (by simp at hg15; exact hg15) | exact .r (j := p) rfl (by simp at hg15; exact hg15))) ?_
 refine a0_ 20 rfl (fa_ 0) ?_
 refine a0_ 21 rfl (still_r1 (mk := Op.load 3) rfl ot (by exact ld_fm0 (i := p) cT_len Tryd.isAgg3 (by simp at hg15; exact hg15) rfl)) ?_
 refine a0_ 22 rfl bn_ ?_
 refine a0_ 23 rfl pkF_ ?_
 refine AD0.later rfl ?_
 refine aw_ [(0, _), (28, _)] [⟨br, 70, 3, [_, _, _]⟩] ?_
 refine AD.done kr_ ?_
 refine CD.cond ot (fun hc0 => ?_) (fun hc0 => ?_)
 ·have hc0' := hc0
  (try simp only [V.cnd, ne_eq] at hc0')
  have hno : ∀ ops, nameP l p ops = gv l p 6 := by first | exact name_no1 (by simp at hg15; omega) | exact name_no2 (by simp at hg15; exact hg15) (by simpa using hc0)
  refine CD.region ?_
  refine om_ ?_
  exact OD.callX wp_ rfl rfl rfl Tryd.call26 (give_vx l hl p 6 ad n cap br) ⟨ot, opd_const, trivial⟩ (perm_all _) (fun ch hch => (Or.inr ⟨ch, rfl, ⟨p, _, fun ops => by rw [hno]; rfl, hch⟩⟩ : BodyX _ _ _ _ _ _)) (fun r S' h => h.elim)
 have hc0' := hc0
 (try simp only [V.cnd, ne_eq] at hc0')
 have hlt : p < l.length := by simp at hg15; exact hg15
 have hk1 : l[p].k = 1 := by simpa using hc0
 refine CD.skip ?_
 refine CD.seq ?_
 refine CD.draw (bks _) kr_ (fun _ h => h) ?_
 refine a0_ 0 rfl mv_ ?_
 refine a0_ 1 rfl nc_ ?_
 refine a0_ 2 rfl (fa_ 0) ?_
 refine a0_ 3 rfl (lb_ 0) ?_
 refine a0_ 4 rfl mv_ ?_
 refine a0_ 5 rfl nc_ ?_
 refine a0_ 6 rfl (fa_ 1) ?_
 refine a0_ 7 rfl (lb_ 0) ?_
 refine a0_ 8 rfl (ix_ 3 (h := by first | exact .l (j := p) rfl hlt | exact .r (j := p) rfl hlt)) ?_
 refine a0_ 9 rfl (fa_ 1) ?_
 refine a0_ 10 rfl (still_r1 (mk := Op.load 9) rfl ot (by exact ld_fm (i := p) (j := 1) cT_len Tryd.isAgg9 hlt rfl)) ?_
 refine a0_ 11 rfl mv_ ?_
 refine AD0.later rfl ?_
 refine aw_ [(0, _), (3, _)] [⟨br, 70, 3, [_, _, _]⟩] ?_
 refine AD.done kr_ ?_
 refine CD.seq ?_
 refine sr_ ?_
 refine om_ ?_
 refine oc_ Tryd.call61 (name_vp hm hw l[p].s (ht _ (List.getElem_mem hlt)).1) ?_
 refine om_ ?_
 refine on_ [(0, _), (3, _), (4, _)] [⟨br, 70, 3, [_, _, _]⟩] ?_
 refine sr_ ?_
 refine om_ ?_
 refine os_ bn_ ?_
 refine nm_ [0, 3, 4, 45] ?_
 refine CD.cond ot (fun hc1 => ?_) (fun hc1 => ?_)
 ·have hc1' := hc1
  (try simp only [V.cnd, ne_eq] at hc1')
  have hn0 : nameF l[p].s ≠ 0 := by simpa using hc1
  refine CD.region ?_
  refine om_ ?_
  refine om_ ?_
  exact OD.callX wp_ rfl rfl rfl Tryd.call26 (give_vx l hl p (nameF l[p].s) ad n cap br) ⟨ot, ot, trivial⟩ (perm_all _) (fun ch hch => (Or.inr ⟨ch, rfl, ⟨p, _, fun ops => by unfold nameP; rw [dif_pos hlt, if_neg (by rw [hk1]; decide), if_pos hn0]; rfl, hch⟩⟩ : BodyX _ _ _ _ _ _)) (fun r S' h => h.elim)
 have hc1' := hc1
 (try simp only [V.cnd, ne_eq] at hc1')
 have hn0 : nameF l[p].s = 0 := by simpa using hc1
 refine CD.skip ?_
 refine sr_ ?_
 refine om_ ?_
 refine os_ nc_ ?_
 refine os_ (fa_ 1) ?_
 refine os_ (lb_ 0) ?_
 refine os_ bn_ ?_
 refine os_ nc_ ?_
 refine os_ (fa_ 1) ?_
 refine ot_ 0 [_, _, _] Tryd.sizeOf3 ?_
 refine on_ [(3, _)] [⟨br, 70, 3, [_, _, _]⟩] ?_
 refine sr_ ?_
 refine om_ ?_
 refine om_ ?_
 refine nm_ [2] ?_
 refine CD.ret ?_
 refine Or.inl ?_
 refine ⟨.inr rfl, _, [_], List.Sublist.refl _, ret_one Tryd.results45 (res_tmp le_ lk), ?_⟩
 exact ⟨l[p].s, fun ops => by unfold nameP; rw [dif_pos hlt, if_neg (by rw [hk1]; decide), if_neg (by rw [hn0]; decide)], rfl, rfl⟩

abbrev OwnO (ops : List OpL) (ad : Option Addr) (cap : Nat) (S : List Blk) : Prop := OwnL 39 5 (ops.flatMap cO) ops.length ad cap S
def PS (br : Nat) (l : List Tk) (p : Nat) (ops : List OpL) (S : List Blk) : Prop := ∃ ad cap So, OwnO ops ad cap So ∧ S = ⟨br, 70, 3, [.list 3 (l.flatMap cT) l.length, .v (.int .i64 ((p : Nat) : Int)), .v (.slice ad ops.length cap)]⟩ :: So

theorem info39_Pa3 : (Tryd.prog.info? 39).map (fun i => (i.zero, i.size, i.bytes)) = some (some (.agg #[.int .i64 0, .int .i64 0, .int .i64 0, .string ⟨#[]⟩, .string ⟨#[]⟩]), 5, 56) := by kernel_rfl

set_option maxHeartbeats 4000000 in
set_option maxRecDepth 100000 in
theorem put_vx (l : List Tk) (hl : l.length ≤ 100) (o : OpL) (p : Nat) (hp : 0 < p) (hp2 : p ≤ 200) (ops : List OpL) (h40l : ops.length ≤ 40) (ad : Option Addr) (cap br : Nat) (So : List Blk) (ho : OwnO ops ad cap So) : VX Tryd.prog G 91 [.v (.pointer (some ⟨br, 0, none⟩)), .agg (cO o)] (⟨br, 70, 3, [.list 3 (l.flatMap cT) l.length, .v (.int .i64 ((p : Nat) : Int)), .v (.slice ad ops.length cap)]⟩ :: So) (fun r S' => ∃ ops', putP l o p ops = .ok () p ops' ∧ ops'.length ≤ 40 ∧ PS br l p ops' S') (fun ch => ∃ q e, putP l o p ops = .no q e ∧ ch = wrC q e) := by
 refine VX.body Tryd.func91 rfl Tryd.ntmps91 le_ fun X0 w0 S00 => ?_
 unfold cO
 refine CD.seq ?_
 refine CD.region ?_
 refine OD.box (ds := [_, _, _, _, _]) wp_ rfl rfl ot rfl rfl (fun b3 => ?_)
 refine OD.wk (Wk.as_ (n := 29) (l' := [(0, _), (3, _)]) (S' := (⟨b3, 39, 5, [_, _, _, _, _]⟩ :: ⟨br, 70, 3, [_, _, _]⟩ :: So)) rfl rfl sl_) ?_
 refine OD.nil ?_
 refine CD.seq ?_
 refine sr_ ?_
 refine om_ ?_
 refine os_ nc_ ?_
 refine os_ (fa_ 2) ?_
 refine os_ (lb_ 1) ?_
 refine os_ ln_ ?_
 refine os_ bn_ ?_
 refine nm_ [0, 3, 9] ?_
 refine CD.cond ot (fun hc0 => ?_) (fun hc0 => ?_)
 ·have hc0' := hc0
  (try simp only [V.cnd, ne_eq] at hc0')
  have h40 : ops.length = 40 := by simp at hc0; omega
  refine sr_ ?_
  refine om_ ?_
  refine os_ nc_ ?_
  refine os_ (fa_ 1) ?_
  refine os_ (lb_ 1) ?_
  refine os_ (still_bin (r := .int .i64 ((p - 1 : Nat) : Int)) rfl ot opd_const (bin_sub (by rw [show ((p : Nat) : Int) - 1 = ((p - 1 : Nat) : Int) by omega]; exact wrap_i64 (by omega) (by omega)))) ?_
  refine os_ nc_ ?_
  refine os_ (fa_ 1) ?_
  refine ot_ 1 [_, _, _] Tryd.sizeOf3 ?_
  refine OD.wk (Wk.as_ (n := 29) (l' := [(0, _), (3, _)]) (S' := (⟨b3, 39, 5, [_, _, _, _, _]⟩ :: ⟨br, 70, 3, [_, _, _]⟩ :: So)) rfl rfl sl_) ?_
  refine OD.nil ?_
  refine CD.region ?_
  refine om_ ?_
  exact OD.callX wp_ rfl rfl rfl Tryd.call26 (give_vx l hl (p - 1) 10 ad ops.length cap br) ⟨ot, opd_const, trivial⟩ (List.perm_middle (l₁ := [_])) (fun ch hch => (Or.inr ⟨ch, rfl, ⟨_, _, by unfold putP; rw [if_pos h40]; rfl, hch⟩⟩ : BodyX _ _ _ _ _ _)) (fun r S' h => h.elim)
 have hc0' := hc0
 (try simp only [V.cnd, ne_eq] at hc0')
 have h40 : ¬ ops.length = 40 := by simp at hc0; omega
 refine CD.skip ?_
 refine CD.draw (bks (List.take 1 _)) kr_ (fun _ h => (List.Sublist.map _ (List.take_sublist _ _)).subset h) ?_
 refine a0_ 0 rfl mv_ ?_
 refine a0_ 1 rfl mv_ ?_
 refine a0_ 2 rfl nc_ ?_
 refine a0_ 3 rfl (fa_ 2) ?_
 refine a0_ 5 rfl (lab_ 0 [_, _, _, _, _]) ?_
 refine AD0.later rfl ?_
 refine AD.two (i := 4) (j := 6) kr_ ?_ ?_
 ·skip
  refine at_ rfl (lb_ 1) ?_
  refine AD.one (i := 6) kr_ ?_
  refine ab_ (numD 0 [_]) [.int .i64 0, .int .i64 0, .int .i64 0, .string ⟨#[]⟩, .string ⟨#[]⟩] [_, _, _, _, _] Tryd.zeroValue39 Tryd.runUnderlying30 Tryd.sizeOf39 (fun b25 => ?_)
  refine ag_ 0 25 5 1 ?_
  refine AD.one (i := 7) kr_ ?_
  refine AStep.appendG (ls := ops) (new := [o]) (Sq := So) cO_len cO_one rfl wp_ rfl rfl Tryd.underlying30 info39_Pa3 rfl (by decide) ot ho (perm_r11 (A := [_, _])) ot (by simp) (by simp only [maxLen, List.length_append, List.length_cons, List.length_nil] at *; omega) (by simp only [List.length_append, List.length_cons, List.length_nil] at *; omega) (fun b26 cp26 h126 h226 => ?_)
  refine AD.perm (perm_q11 (S1 := [⟨b26, 39, cp26 * 5, List.flatMap cO (ops ++ [o])⟩]) (A := [_, _])) ?_
  refine a1_ 8 rfl nc_ ?_
  refine a1_ 9 rfl (fa_ 2) ?_
  refine AD.one (i := 10) kr_ ?_
  refine AStep.store (k := 1) (cs' := [_, _, _]) rfl wp_ rfl rfl ot rfl rfl ot rfl rfl Tryd.sizeOf30 rfl rfl rfl (by intro b hb; simp [bks, St.put] at hb ⊢; try first | exact hb | simp [hb] | (rcases hb with hb | hb <;> simp [hb]) | (rcases hb with hb | hb | hb <;> simp [hb])) ?_
  refine AD.wk (y := ⟨29, [], (⟨b3, 39, 5, [_, _, _, _, _]⟩ :: ⟨br, 70, 3, [_, _, _]⟩ :: [⟨b26, 39, cp26 * 5, List.flatMap cO (ops ++ [o])⟩])⟩) (Wk.as_ rfl rfl trivial) rfl ?_
  refine AD.done kr_ ?_
  refine Or.inl ?_
  refine ⟨.inl rfl, _, (⟨br, 70, 3, [.list 3 (l.flatMap cT) l.length, .v (.int .i64 ((p : Nat) : Int)), .v (.slice (some ⟨b26, 0, none⟩) (ops ++ [o]).length cp26)]⟩ :: [⟨b26, 39, cp26 * 5, List.flatMap cO (ops ++ [o])⟩]), su_, ret_none Tryd.results91 , ?_⟩
  exact ⟨ops ++ [o], by unfold putP; rw [if_neg h40], by simp; omega, (some ⟨b26, 0, none⟩), cp26, [⟨b26, 39, cp26 * 5, List.flatMap cO (ops ++ [o])⟩], (ownL_row h126 h226), rfl⟩
 refine ab_ (numD 0 [_]) [.int .i64 0, .int .i64 0, .int .i64 0, .string ⟨#[]⟩, .string ⟨#[]⟩] [_, _, _, _, _] Tryd.zeroValue39 Tryd.runUnderlying30 Tryd.sizeOf39 (fun b25 => ?_)
 refine ag_ 0 25 5 1 ?_
 refine AD.one (i := 4) kr_ ?_
 refine at_ rfl (lb_ 1) ?_
 refine AD.one (i := 7) kr_ ?_
 refine AStep.appendG (ls := ops) (new := [o]) (Sq := So) cO_len cO_one rfl wp_ rfl rfl Tryd.underlying30 info39_Pa3 rfl (by decide) ot ho (perm_r11 (A := [_, _])) ot (by simp) (by simp only [maxLen, List.length_append, List.length_cons, List.length_nil] at *; omega) (by simp only [List.length_append, List.length_cons, List.length_nil] at *; omega) (fun b26 cp26 h126 h226 => ?_)
 refine AD.perm (perm_q11 (S1 := [⟨b26, 39, cp26 * 5, List.flatMap cO (ops ++ [o])⟩]) (A := [_, _])) ?_
 refine a1_ 8 rfl nc_ ?_
 refine a1_ 9 rfl (fa_ 2) ?_
 refine AD.one (i := 10) kr_ ?_
 refine AStep.store (k := 1) (cs' := [_, _, _]) rfl wp_ rfl rfl ot rfl rfl ot rfl rfl Tryd.sizeOf30 rfl rfl rfl (by intro b hb; simp [bks, St.put] at hb ⊢; try first | exact hb | simp [hb] | (rcases hb with hb | hb <;> simp [hb]) | (rcases hb with hb | hb | hb <;> simp [hb])) ?_
 refine AD.wk (y := ⟨29, [], (⟨b3, 39, 5, [_, _, _, _, _]⟩ :: ⟨br, 70, 3, [_, _, _]⟩ :: [⟨b26, 39, cp26 * 5, List.flatMap cO (ops ++ [o])⟩])⟩) (Wk.as_ rfl rfl trivial) rfl ?_
 refine AD.done kr_ ?_
 refine Or.inl ?_
 refine ⟨.inl rfl, _, (⟨br, 70, 3, [.list 3 (l.flatMap cT) l.length, .v (.int .i64 ((p : Nat) : Int)), .v (.slice (some ⟨b26, 0, none⟩) (ops ++ [o]).length cp26)]⟩ :: [⟨b26, 39, cp26 * 5, List.flatMap cO (ops ++ [o])⟩]), su_, ret_none Tryd.results91 , ?_⟩
 exact ⟨ops ++ [o], by unfold putP; rw [if_neg h40], by simp; omega, (some ⟨b26, 0, none⟩), cp26, [⟨b26, 39, cp26 * 5, List.flatMap cO (ops ++ [o])⟩], (ownL_row h126 h226), rfl⟩

end Go.Proofs.YtjgekbmahhhokaaDoor.Pa
