/-
  A walk at the level of values. Part 7: lists of operations, code, loops, bodies.
-/
import Derived.Test.YtcogdagfcndbfaaDoorV6
namespace Go.Proofs.YtcogdagfcndbfaaDoor.V
open Go.RowKit
set_option linter.unusedVariables false
set_option linter.unusedSimpArgs false

/-- What is to hold behind a piece of code, said of states. -/
def LQ (C : Ctx) (Q : Exit → St → Prop) : Exit → Act → World → Prop := fun e a w => ∃ y, Sim C y a w ∧ Q e y

/-- From state x the code comes to what Q says. -/
def CD (P : Program) (C : Ctx) (c : Code) (x : St) (Q : Exit → St → Prop) : Prop := ∀ a w, Sim C x a w → c.wp P (LQ C Q) a w

/-- From state x the operations come to what Q says. -/
def OD (P : Program) (C : Ctx) (ops : Array Oper) (l : List Oper) (x : St) (Q : Exit → St → Prop) : Prop := ∀ a w, Sim C x a w → wpList P ops (LQ C Q) l a w

variable {P : Program} {C : Ctx} {Q : Exit → St → Prop} {x y : St} {ops : Array Oper} {l : List Oper} {o : Oper}

/-- Is the operation wanted? -/
def Wants (ops : Array Oper) (x : St) (o : Oper) (b : Bool) : Prop := ∀ C a w, Sim C x a w → Region.wanted o (yielded ops a.tmps) = b

theorem wants_plain (h : o.guard = none) : Wants ops x o true := fun C a w _ => by simp [Region.wanted, h]

theorem wants_if {g t : Nat} {want b : Bool} (h : o.guard = some (g, want)) (hg : (ops[g]?).bind (·.dst) = some t) (ht : t < x.n) (hb : look t x.env = .v (.bool b)) : Wants ops x o (b == want) := fun C a w hs => by
  have hv := hs.env t ht
  rw [hb] at hv
  have hv := hv.v_eq
  have hsz := hs.size
  have : a.tmps[t]? = some (.bool b) := by
    rw [Array.getD_eq_getD_getElem?, Array.getElem?_eq_getElem (by omega)] at hv
    rw [Array.getElem?_eq_getElem (by omega)]
    simpa using hv
  simp only [Region.wanted, h, yielded, hg, Option.bind_some, this]
  cases b <;> cases want <;> rfl

/-! ### What a slot holds -/
theorem look_hit {t : Nat} {d : D} {r : List (Nat × D)} : look t ((t, d) :: r) = d := by rw [look_cons, if_pos rfl]
theorem look_nil {t : Nat} : look t [] = .junk := rfl
theorem look_at {t : Nat} {d d' : D} {r : List (Nat × D)} (h : d = d') : look t ((t, d) :: r) = d' := by rw [look_cons, if_pos rfl, h]
theorem look_miss {t i : Nat} {d d' : D} {r : List (Nat × D)} (h : Nat.beq i t = false) (k : look t r = d') : look t ((i, d) :: r) = d' := by rw [look, h]; exact k
theorem opd_const {v : Value} {x : St} : opd x (.const v) = .v v := rfl
theorem opd_func {f : FuncId} {x : St} : opd x (.func f) = .clo (.func f) [] := rfl
theorem opd_glob {g : Nat} {x : St} : opd x (.global g) = .v (.pointer (some ⟨g, 0, none⟩)) := rfl
theorem opd_tmp {t : Nat} {d : D} {x : St} (h : Nat.blt t x.n = true) (k : look t x.env = d) : opd x (.tmp t) = d := by simp only [opd, h, k]; rfl

/-- Slot by slot. -/
def Slots (l : List (Nat × D)) : List (Nat × D) → Prop
  | [] => True
  | (i, d) :: r => look i l = d ∧ Slots l r

theorem Slots.look {l : List (Nat × D)} : ∀ {l' : List (Nat × D)}, Slots l l' → ∀ t, V.look t l' = V.look t l ∨ V.look t l' = .junk
  | [], _, t => .inr rfl
  | (i, d) :: r, h, t => by
    rw [look_cons]
    by_cases e : i = t
    · subst e; rw [if_pos rfl]; exact .inl h.1.symm
    · rw [if_neg e]; exact h.2.look t

theorem Wk.slots {n : Nat} {l l' : List (Nat × D)} {S : List Blk} (h : Slots l l') : Wk ⟨n, l, S⟩ ⟨n, l', S⟩ := fun C a w hs =>
  ⟨hs.defers, hs.size, fun t ht => by
    rcases h.look t with e | e
    · simp only [e]; exact hs.env t ht
    · simp only [e]; exact .junk _, hs.own, hs.fr, hs.ex, hs.tab⟩

/-- The state as it is to be written from here on. -/
theorem Wk.as_ {x : St} {n : Nat} {l' : List (Nat × D)} {S' : List Blk} (hn : x.n = n) (hS : x.S = S') (h : Slots x.env l') : Wk x ⟨n, l', S'⟩ := by
  obtain ⟨n0, l0, S0⟩ := x
  simp only at hn hS h
  subst hn hS
  exact Wk.slots h

theorem Wk.asS {x : St} {n : Nat} {l' : List (Nat × D)} {S' : List Blk} (hn : x.n = n) (hS : S'.Sublist x.S) (h : Slots x.env l') : Wk x ⟨n, l', S'⟩ := by
  obtain ⟨n0, l0, S0⟩ := x
  simp only at hn hS h
  subst hn
  exact (Wk.drop n0 l0 S0 S' hS).trans (Wk.slots h)

theorem wants_T {ops : Array Oper} {x : St} {o : Oper} {g t : Nat} {want b : Bool} (h : o.guard = some (g, want)) (hg : (ops[g]?).bind (·.dst) = some t) (ht : Nat.blt t x.n = true) (hb : look t x.env = .v (.bool b)) (hw : b = want) : Wants ops x o true := by
  have := wants_if h hg (Nat.le_of_ble_eq_true ht) hb
  rw [hw] at this
  simpa using this
theorem wants_F {ops : Array Oper} {x : St} {o : Oper} {g t : Nat} {want b : Bool} (h : o.guard = some (g, want)) (hg : (ops[g]?).bind (·.dst) = some t) (ht : Nat.blt t x.n = true) (hb : look t x.env = .v (.bool b)) (hw : b = !want) : Wants ops x o false := by
  have := wants_if h hg (Nat.le_of_ble_eq_true ht) hb
  rw [hw] at this
  cases want <;> simpa using this
/-- An operation that was not wanted left nothing: whoever waits for it is not wanted either. -/
theorem wants_J {ops : Array Oper} {x : St} {o : Oper} {g t : Nat} {want b : Bool} (h : o.guard = some (g, want)) (hg : (ops[g]?).bind (·.dst) = some t) (ht : Nat.blt t x.n = true) (hb : look t x.env = .v (.tuple #[])) : Wants ops x o false := fun C a w hs => by
  have hv := hs.env t (Nat.le_of_ble_eq_true ht)
  rw [hb] at hv
  have hv := hv.v_eq
  have hsz := hs.size
  have ht' : t < x.n := Nat.le_of_ble_eq_true ht
  have : a.tmps[t]? = some (.tuple #[]) := by
    rw [Array.getD_eq_getD_getElem?, Array.getElem?_eq_getElem (by omega)] at hv
    rw [Array.getElem?_eq_getElem (by omega)]
    simpa using hv
  simp only [Region.wanted, h, yielded, hg, Option.bind_some, this]
  cases want <;> rfl

theorem OD.nil (h : Q .normal x) : OD P C ops [] x Q := fun a w hs => ⟨x, hs, h⟩

theorem OD.eff {W : List Nat} {post : St → Prop} (hw : Wants ops x o true) (h : Eff P C.G x o W post) (k : ∀ y, post y → OD P C ops l y Q) : OD P C ops (o :: l) x Q := fun a w hs => by
  unfold wpList
  rw [if_pos (hw C a w hs)]
  exact .inl (h C a w _ _ rfl hs fun y a' w' hp hs' _ _ => k y hp a' w' hs')

theorem OD.still {kd : Rd} {d : D} {t : Nat} (hw : Wants ops x o true) (hd : o.dst = some t) (h : Still P C.G x o kd d) (k : OD P C ops l (x.put t d) Q) : OD P C ops (o :: l) x Q :=
  OD.eff hw (h.eff hd) fun y hy => by subst hy; exact k

theorem OD.skip {t : Nat} (hw : Wants ops x o false) (hd : o.dst = some t) (k : OD P C ops l (x.put t (.v (.tuple #[]))) Q) : OD P C ops (o :: l) x Q := fun a w hs => by
  unfold wpList
  rw [if_neg (by rw [hw C a w hs]; simp), hd]
  exact k _ _ (hs.put (.v _))

theorem OD.skip0 (hw : Wants ops x o false) (hd : o.dst = none) (k : OD P C ops l x Q) : OD P C ops (o :: l) x Q := fun a w hs => by
  unfold wpList
  rw [if_neg (by rw [hw C a w hs]; simp), hd]
  exact k _ _ hs

theorem OD.wk (h : Wk x y) (k : OD P C ops l y Q) : OD P C ops l x Q := fun a w hs => k a w (h C a w hs)

/-! ### Code -/

theorem CD.wk {c : Code} (h : Wk x y) (k : CD P C c y Q) : CD P C c x Q := fun a w hs => k a w (h C a w hs)

theorem CD.mono {c : Code} {Q' : Exit → St → Prop} (h : CD P C c x Q) (k : ∀ e y, Q e y → Q' e y) : CD P C c x Q' := fun a w hs =>
  wp_mono (h a w hs) fun e a' w' ⟨y, h1, h2⟩ => ⟨y, h1, k e y h2⟩

theorem CD.skip (h : Q .normal x) : CD P C .skip x Q := fun a w hs => wp_skip ⟨x, hs, h⟩
theorem CD.ret (h : Q .ret x) : CD P C .ret x Q := fun a w hs => wp_ret ⟨x, hs, h⟩
theorem CD.exit {id : Nat} (h : Q (.exit id) x) : CD P C (.exit id) x Q := fun a w hs => wp_exit ⟨x, hs, h⟩
theorem CD.label {id : Nat} (h : Q .normal x) : CD P C (.label id) x Q := fun a w hs => wp_label ⟨x, hs, h⟩

/-- What the first piece must come to, where a second one follows. -/
def Then (P : Program) (C : Ctx) (c : Code) (Q : Exit → St → Prop) : Exit → St → Prop
  | .normal, y => CD P C c y Q
  | e, y => Q e y

theorem CD.seq {c d : Code} (h : CD P C c x (Then P C d Q)) : CD P C (.seq c d) x Q := fun a w hs =>
  wp_seq (wp_mono (h a w hs) fun e a' w' ⟨y, h1, h2⟩ => by cases e <;> first | exact h2 a' w' h1 | exact ⟨y, h1, h2⟩)

theorem CD.region {id : Nat} {l : List Oper} (h : OD P C l.toArray l x Q) : CD P C (.region id l.toArray false) x Q := fun a w hs => wp_region_lit (h a w hs)

theorem CD.cond {c : Operand} {d e : Code} {b : Bool} (hc : opd x c = .v (.bool b)) (ht : b = true → CD P C d x Q) (hf : b = false → CD P C e x Q) : CD P C (.cond c d e) x Q := fun a w hs =>
  wp_cond_split (hs.flat hc) (fun h => ht h a w hs) (fun h => hf h a w hs)

theorem CD.condT {c : Operand} {d e : Code} {b : Bool} (hc : opd x c = .v (.bool b)) (hb : b = true) (ht : CD P C d x Q) : CD P C (.cond c d e) x Q := fun a w hs =>
  wp_cond_true (by rw [hs.flat hc, hb]) (ht a w hs)

theorem CD.condF {c : Operand} {d e : Code} {b : Bool} (hc : opd x c = .v (.bool b)) (hb : b = false) (hf : CD P C e x Q) : CD P C (.cond c d e) x Q := fun a w hs =>
  wp_cond_false (by rw [hs.flat hc, hb]) (hf a w hs)

def InBlock (id : Nat) (Q : Exit → St → Prop) : Exit → St → Prop
  | .exit id', y => bif Nat.beq id' id then Q .normal y else Q (.exit id') y
  | e, y => Q e y

theorem CD.block {id : Nat} {c : Code} (h : CD P C c x (InBlock id Q)) : CD P C (.block id c) x Q := fun a w hs =>
  wp_block (wp_mono (h a w hs) fun e a' w' ⟨y, h1, h2⟩ => by
    cases e with
    | exit id' =>
      simp only [InBlock] at h2
      simp only [Exit.inBlock]
      by_cases he : id' = id
      · subst he; rw [if_pos rfl]; simp at h2; exact ⟨y, h1, h2⟩
      · rw [if_neg he]
        have : Nat.beq id' id = false := by
          cases h : Nat.beq id' id with
          | false => rfl
          | true => exact absurd (Nat.eq_of_beq_eq_true h) he
        rw [this] at h2; exact ⟨y, h1, h2⟩
    | _ => exact ⟨y, h1, h2⟩)

theorem least (p : Nat → Prop) (h : ∃ n, p n) : ∃ n, p n ∧ ∀ m, p m → n ≤ m := by
  obtain ⟨n, hn⟩ := h
  induction n using Nat.strongRecOn with
  | _ n ih =>
    by_cases hq : ∃ m, m < n ∧ p m
    · obtain ⟨m, hm, hp⟩ := hq; exact ih m hm hp
    · exact ⟨n, hn, fun m hm => Nat.le_of_not_lt fun hlt => hq ⟨m, hlt, hm⟩⟩

/-- What a round must come to: another state of the loop, nearer to its end; or what lies behind the loop. -/
def Round {ι : Type} (I : ι → St → Prop) (μ : ι → Nat) (i : ι) (Q : Exit → St → Prop) : Exit → St → Prop
  | .normal, y => ∃ j z, μ j < μ i ∧ Wk y z ∧ I j z
  | e, y => Q e y

open Classical in
theorem CD.loop {ι : Type} {c : Code} (I : ι → St → Prop) (μ : ι → Nat) (i : ι) (h0 : I i x) (round : ∀ i y, I i y → CD P C c y (Round I μ i Q)) : CD P C (.loop c) x Q := fun a w hs => by
  let p : Act → World → Nat → Prop := fun a w n => ∃ i y, μ i = n ∧ I i y ∧ Sim C y a w
  let m : Act → World → Nat := fun a w => if h : ∃ n, p a w n then Classical.choose (least _ h) else 0
  refine wp_loop (fun a w => ∃ n, p a w n) m ⟨_, i, x, rfl, h0, hs⟩ fun a w hI => ?_
  have hm : m a w = Classical.choose (least _ hI) := dif_pos hI
  obtain ⟨⟨i, y, h1, h2, h3⟩, _⟩ := Classical.choose_spec (least _ hI)
  rw [← hm] at h1
  refine wp_mono (round i y h2 a w h3) fun e a' w' ⟨z, q1, q2⟩ => ?_
  cases e with
  | normal =>
    obtain ⟨j, z', r1, r2, r3⟩ := q2
    have hp : p a' w' (μ j) := ⟨j, z', rfl, r3, r2 C a' w' q1⟩
    have hI' : ∃ n, p a' w' n := ⟨_, hp⟩
    have hm' : m a' w' = Classical.choose (least _ hI') := dif_pos hI'
    refine ⟨hI', ?_⟩
    have := (Classical.choose_spec (least _ hI')).2 _ hp
    rw [hm']
    omega
  | _ => exact ⟨z, q1, q2⟩

/-! ### Results and bodies -/

def rsem (tmps : Array Value) : ResultVar → Sem Value
  | .tmp t => pure (tmps.getD t undef)
  | .cell a t => do loadVar t (← asAddr (tmps.getD a undef))

theorem results_eq (fn : Func) (tmps : Array Value) : results fn tmps = (do let vs ← fn.results.mapM (rsem tmps); pure (if h : vs.size = 1 then vs[0] else .tuple vs)) := rfl

/-- The result variable reads as d. -/
def Res (P : Program) (y : St) (rv : ResultVar) (d : D) : Prop :=
  ∀ C a w, Sim C y a w → ∃ v, Rep w (live C.X y.S) d v ∧ (rsem a.tmps rv).run P w = .ok v w

theorem res_tmp {t : Nat} {d : D} (ht : t < y.n) (hd : look t y.env = d) : Res P y (.tmp t) d := fun C a w h => ⟨_, hd ▸ h.env t ht, rfl⟩

theorem res_cell {c t k b : Nat} {B : Blk} {d : D} (hc : c < y.n) (hd : look c y.env = .v (.pointer (some ⟨b, 0, none⟩))) (hk : y.S[k]? = some B) (hb : B.b = b) (ha : ∀ w, (isAgg t).run P w = .ok false w) (hcs : B.cs = [d]) : Res P y (.cell c t) d := fun C a w h => by
  subst hb
  have he := h.env c hc
  rw [hd] at he
  obtain ⟨_, cur, h1, h2, h3, h4⟩ := h.blk hk
  obtain ⟨u, hu, hr⟩ := h4 0 (by simp [hcs])
  refine ⟨u, by simpa [hcs] using hr, ?_⟩
  simp only [rsem, he.v_eq, asAddr, Sem.run_bind, Sem.run_pure, Result.andThen_ok]
  have := run_load1 (P := P) (t := t) (w := w) ha (cell_blk h1 hu)
  simpa [Instr.loadAt, Instr.sureAddr] using this

theorem res_cells {c t k b n : Nat} {B : Blk} {ds : List D} (hc : c < y.n) (hd : look c y.env = .v (.pointer (some ⟨b, 0, none⟩))) (hk : y.S[k]? = some B) (hb : B.b = b) (ha : ∀ w, (isAgg t).run P w = .ok true w) (hn : ∀ w, (sizeOf t).run P w = .ok n w) (hcs : B.cs = ds) (hl : ds.length = n) : Res P y (.cell c t) (.agg ds) := fun C a w h => by
  subst hb hcs
  have he := h.env c hc
  rw [hd] at he
  obtain ⟨_, cur, h1, h2, h3, h4⟩ := h.blk hk
  refine ⟨.agg ((List.range n).map fun j => cur.getD j undef).toArray, .agg _ _ (by simp [hl]) (fun i q1 q2 => ?_), ?_⟩
  · obtain ⟨u, hu, hr⟩ := h4 i q1
    simp only [List.getElem_map, List.getElem_range, Array.getD_eq_getD_getElem?, hu, Option.getD_some]
    exact hr
  · simp only [rsem, he.v_eq, asAddr, Sem.run_bind, Sem.run_pure, Result.andThen_ok]
    have := run_loadN (P := P) (t := t) (w := w) (b := B.b) (o' := 0) (vs := (List.range n).map fun j => cur.getD j undef) ha hn (by simp) (fun j hj => by
      simp only [List.length_map, List.length_range] at hj
      obtain ⟨u, hu, _⟩ := h4 j (by omega)
      simp only [List.getElem_map, List.getElem_range, Array.getD_eq_getD_getElem?, hu, Option.getD_some, Nat.zero_add]
      exact cell_blk h1 hu)
    simpa [Instr.loadAt, Instr.sureAddr] using this

def Ret (P : Program) (fn : Func) (y : St) (r : D) : Prop := ∀ C a w, Sim C y a w → ∃ v, Rep w (live C.X y.S) r v ∧ (results fn a.tmps).run P w = .ok v w

theorem ret_none {fn : Func} (hr : fn.results = #[]) : Ret P fn y (.tup []) := fun C a w h =>
  ⟨.tuple #[], .tup [] [] rfl (fun i h1 _ => by simp at h1), by unfold results; simp [hr]⟩

theorem ret_one {fn : Func} {rv : ResultVar} {d : D} (hr : fn.results = #[rv]) (h : Res P y rv d) : Ret P fn y d := fun C a w hs => by
  obtain ⟨v, h1, h2⟩ := h C a w hs
  refine ⟨v, h1, ?_⟩
  rw [results_eq, hr]
  simp [h2]

theorem rep_tup {w : World} {L : Nat → Prop} {ds : List D} {vs : List Value} (h : RepL w L ds vs) : Rep w L (.tup ds) (.tuple vs.toArray) := .tup ds vs h.1 h.2

theorem RepL.cons {w : World} {L : Nat → Prop} {d : D} {v : Value} {ds : List D} {vs : List Value} (h : Rep w L d v) (hs : RepL w L ds vs) : RepL w L (d :: ds) (v :: vs) :=
  ⟨by simp [hs.1], fun i h1 h2 => by
    cases i with
    | zero => exact h
    | succ i => exact hs.2 i _ _⟩

theorem RepL.nil (w : World) (L : Nat → Prop) : RepL w L [] [] := ⟨rfl, fun i h => by simp at h⟩

theorem ret_two {fn : Func} {r1 r2 : ResultVar} {d1 d2 : D} (hr : fn.results = #[r1, r2]) (h1 : Res P y r1 d1) (h2 : Res P y r2 d2) : Ret P fn y (.tup [d1, d2]) := fun C a w hs => by
  obtain ⟨v1, a1, b1⟩ := h1 C a w hs
  obtain ⟨v2, a2, b2⟩ := h2 C a w hs
  refine ⟨_, rep_tup (.cons a1 (.cons a2 (.nil _ _))), ?_⟩
  rw [results_eq, hr]
  simp [b1, b2]

theorem ret_three {fn : Func} {r1 r2 r3 : ResultVar} {d1 d2 d3 : D} (hr : fn.results = #[r1, r2, r3]) (h1 : Res P y r1 d1) (h2 : Res P y r2 d2) (h3 : Res P y r3 d3) : Ret P fn y (.tup [d1, d2, d3]) := fun C a w hs => by
  obtain ⟨v1, a1, b1⟩ := h1 C a w hs
  obtain ⟨v2, a2, b2⟩ := h2 C a w hs
  obtain ⟨v3, a3, b3⟩ := h3 C a w hs
  refine ⟨_, rep_tup (.cons a1 (.cons a2 (.cons a3 (.nil _ _)))), ?_⟩
  rw [results_eq, hr]
  simp [b1, b2, b3]

/-- The body's end. -/
def Body (P : Program) (fn : Func) (post : D → List Blk → Prop) (e : Exit) (y : St) : Prop :=
  (e = .normal ∨ e = .ret) ∧ ∃ r S', S'.Sublist y.S ∧ Ret P fn y r ∧ post r S'

def envOf : Nat → List D → List (Nat × D)
  | _, [] => []
  | i, d :: r => (i, d) :: envOf (i + 1) r

theorem look_envOf : ∀ (ds : List D) (i t : Nat), look t (envOf i ds) = if i ≤ t then ds.getD (t - i) .junk else .junk
  | [], i, t => by simp [envOf, look]
  | d :: r, i, t => by
    rw [envOf, look_cons, look_envOf r (i + 1) t]
    by_cases h : i = t
    · subst h; simp
    · rw [if_neg h]
      by_cases h2 : i ≤ t
      · rw [if_pos h2, if_pos (by omega), show t - i = (t - (i + 1)) + 1 from by omega]; simp
      · rw [if_neg h2, if_neg (by omega)]

theorem VC.body {G : List (Nat × List Value)} {f : FuncId} {fn : Func} {c : Code} {n : Nat} {args : List D} {S : List Blk} {post : D → List Blk → Prop} (hf : P.funcs[f]? = some fn) (hb : fn.body = some c) (hn : fn.ntmps = n) (hl : args.length ≤ n)
    (h : ∀ X w0 S0, CD P ⟨X, w0, S0, G⟩ c ⟨n, envOf 0 args, S⟩ (Body P fn post)) : VC P G f args S post := fun X w vs hp => by
  have hvl : vs.length = args.length := hp.args.1
  let C : Ctx := ⟨X, w, bks S, G⟩
  have hsim : Sim C ⟨n, envOf 0 args, S⟩ { tmps := vs.toArray ++ Array.replicate (fn.ntmps - vs.toArray.size) undef, defers := [] } w := by
    refine ⟨rfl, by simp [hn]; omega, fun t ht => ?_, hp.own, Fr.refl _ _, hp.ex, hp.tab⟩
    simp only [look_envOf, Nat.zero_le, if_true, Nat.sub_zero]
    by_cases hlt : t < args.length
    · have e1 : args.getD t .junk = args[t] := by simp [List.getD, hlt]
      have e2 : (vs.toArray ++ Array.replicate (fn.ntmps - vs.toArray.size) undef).getD t undef = vs[t]'(by omega) := by
        rw [Array.getD_eq_getD_getElem?, Array.getElem?_append_left (by simp; omega)]
        simp [show t < vs.length by omega]
      rw [e1, e2]
      exact hp.args.2 t hlt (by omega)
    · have e1 : args.getD t .junk = .junk := by simp [List.getD, List.getElem?_eq_none (show args.length ≤ t by omega)]
      rw [e1]; exact .junk _
  refine calls_of_wp hf hb (wp_mono (h _ _ _ _ _ hsim) fun e a w' ⟨y, h1, h2, r, S', h3, h4, h5⟩ => ?_)
  obtain ⟨v, q1, q2⟩ := h4 C a w' h1
  have hsub : (bks S').Sublist (bks y.S) := List.Sublist.map _ h3
  have key : a.defers = [] ∧ ∃ v, (results fn a.tmps).run P w' = .ok v w' ∧ ∃ v' r S', Ending.returned v = .returned v' ∧ post r S' ∧ Own w' (live X S') S' ∧ Rep w' (live X S') r v' ∧ Fr w (bks S) w' (bks S') :=
    ⟨h1.defers, v, q2, v, r, S', rfl, h5, h1.own.sub h3, q1.mono fun b _ hn => ⟨rfl, fun hl => hn (hl.imp id fun q => hsub.subset q)⟩,
      ⟨h1.fr.os, h1.fr.tape, h1.fr.output, h1.fr.size, fun b hb' hn => ⟨(h1.fr.block b hb' hn).1, fun q => (h1.fr.block b hb' hn).2 (hsub.subset q)⟩⟩⟩
  rcases h2 with rfl | rfl <;> exact key

end Go.Proofs.YtcogdagfcndbfaaDoor.V
