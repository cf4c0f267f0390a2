/-
  A walk at the level of values. Part 8: regions that draw their order.
-/
import Derived.Test.YtcogdagfcndbfaaDoorV7
namespace Go.Proofs.YtcogdagfcndbfaaDoor.V
open Go.RowKit
set_option linter.unusedVariables false
set_option linter.unusedSimpArgs false

/-- What stands through a region that began in w1: what nobody owned then, and the blocks T. -/
def Stay (w1 : World) (S1 T : List Nat) (w : World) : Prop := (∀ b, b < w1.heap.size → b ∉ S1 → w.heap[b]? = w1.heap[b]?) ∧ ∀ b ∈ T, w.heap[b]? = w1.heap[b]?

/-- Whatever order is drawn from here on (T: owned blocks that nobody writes in the region; S1: what was owned at its beginning). -/
def AD (P : Program) (C : Ctx) (ops : Array Oper) (S1 T : List Nat) (fuel : Nat) (ld : Array Bool) (x : St) (Q : Exit → St → Prop) : Prop :=
  ∀ w1 a w, Sim C x a w → (∀ b ∈ T, b ∈ S1) → (∀ b ∈ S1, b < w1.heap.size) → Fr w1 S1 w (bks x.S) → Stay w1 S1 T w → wpAnyH P .any ops (LQ C Q) (Stay w1 S1 T) fuel ld a w

/-- The same at the region's beginning, where nothing has been changed yet. -/
def AD0 (P : Program) (C : Ctx) (ops : Array Oper) (S1 T : List Nat) (fuel : Nat) (ld : Array Bool) (x : St) (Q : Exit → St → Prop) : Prop :=
  ∀ a w, Sim C x a w → bks x.S = S1 → (∀ b ∈ T, b ∈ S1) → wpAnyH P .any ops (LQ C Q) (Stay w S1 T) fuel ld a w

def NP (Q : Exit → St → Prop) : Prop := ∀ c y, ¬ Q (.panic c) y

variable {P : Program} {C : Ctx} {Q : Exit → St → Prop} {x y : St} {ops : Array Oper} {l : List Oper} {o : Oper} {S1 T : List Nat}

theorem NP.then {c : Code} (h : NP Q) : NP (Then P C c Q) := fun ch y hq => h ch y hq
theorem NP.inBlock {id : Nat} (h : NP Q) : NP (InBlock id Q) := fun ch y hq => h ch y hq
theorem NP.round {ι : Type} {I : ι → St → Prop} {μ : ι → Nat} {i : ι} (h : NP Q) : NP (Round I μ i Q) := fun ch y hq => h ch y hq
theorem NP.body {fn : Func} {post : D → List Blk → Prop} : NP (Body P fn post) := fun ch y hq => by rcases hq.1 with h | h <;> cases h

theorem Stay.refl (w1 : World) (S1 T : List Nat) : Stay w1 S1 T w1 := ⟨fun _ _ _ => rfl, fun _ _ => rfl⟩

theorem AD0.later {fuel : Nat} {ld : Array Bool} (hS : bks x.S = S1) (h : AD P C ops S1 T fuel ld x Q) : AD0 P C ops S1 T fuel ld x Q := fun a w hs _ hT =>
  h w a w hs hT (fun b hb => by
    rw [← hS] at hb
    obtain ⟨B, hB, rfl⟩ := List.mem_map.1 hb
    exact (hs.own.at_ B hB).1) (hS ▸ Fr.refl _ _) (Stay.refl _ _ _)

/-- Is the operation's looking safe, whatever else of the region comes first? -/
def Safe (x : St) (T : List Nat) : Rd → Prop
  | .none => True
  | .imm => True
  | .blk k => ∃ B, x.S[k]? = some B ∧ B.b ∈ T

theorem hQ_of (h : NP Q) (d : Option Nat) (v : Value) : ∀ c a w, LQ C Q (.panic c) (a.put d v) w → LQ C Q (.panic c) a w := fun c a w ⟨y, _, h2⟩ => absurd h2 (h c y)

/-- At the beginning: an operation that may come up is taken first. -/
theorem AD0.take {fuel i t : Nat} {ld : Array Bool} {k : Rd} {d : D} (hi : ops[i]? = some o) (hs : Region.noSelect ops = true) (hf : Region.free .any ops ld i = true) (hr : (Region.ready .any ops ld).contains i = true) (hp : NP Q)
    (hw : Wants ops x o true) (hd : o.dst = some t) (h : Still P C.G x o k d) (hk : Safe x T k) (K : AD0 P C ops S1 T fuel (ld.setIfInBounds i true) (x.put t d) Q) : AD0 P C ops S1 T (fuel + 1) ld x Q := fun a w hsim hS hT => by
  obtain ⟨v, h1, h2⟩ := h C a w rfl hsim
  refine wpAnyH_take hi hs hf hr (hQ_of hp _ v) (.inl ⟨hw C a w hsim, fun w' hw' => h2 w' ?_⟩) (Stay.refl _ _ _) ?_
  · cases k with
    | none => trivial
    | imm => exact fun b hb hn => hw'.1 b hb (fun hm => hn (.inr (hS ▸ hm)))
    | blk k =>
      obtain ⟨B, hB, hm⟩ := hk
      intro B' hB'
      rw [hB] at hB'
      obtain rfl := Option.some.inj hB'
      exact hw'.2 _ hm
  · rw [hd]
    exact K _ _ (hsim.put h1) hS hT

theorem AD0.takeSkip {fuel i t : Nat} {ld : Array Bool} (hi : ops[i]? = some o) (hs : Region.noSelect ops = true) (hf : Region.free .any ops ld i = true) (hr : (Region.ready .any ops ld).contains i = true) (hp : NP Q)
    (hw : Wants ops x o false) (hd : o.dst = some t) (K : AD0 P C ops S1 T fuel (ld.setIfInBounds i true) (x.put t (.v (.tuple #[]))) Q) : AD0 P C ops S1 T (fuel + 1) ld x Q := fun a w hsim hS hT => by
  refine wpAnyH_take (v := undef) hi hs hf hr (hQ_of hp _ _) (.inr ⟨hw C a w hsim, rfl⟩) (Stay.refl _ _ _) ?_
  rw [hd]
  exact K _ _ (hsim.put (.v _)) hS hT

/-- Later: an operation that looks at nothing, or at an owned block that stands. -/
theorem AD.take {fuel i t : Nat} {ld : Array Bool} {k : Rd} {d : D} (hi : ops[i]? = some o) (hs : Region.noSelect ops = true) (hf : Region.free .any ops ld i = true) (hr : (Region.ready .any ops ld).contains i = true) (hp : NP Q)
    (hw : Wants ops x o true) (hd : o.dst = some t) (h : Still P C.G x o k d) (hk : Safe x T k) (hni : k ≠ .imm) (K : AD P C ops S1 T fuel (ld.setIfInBounds i true) (x.put t d) Q) : AD P C ops S1 T (fuel + 1) ld x Q := fun w1 a w hsim hT hlt hfr hst => by
  obtain ⟨v, h1, h2⟩ := h C a w rfl hsim
  refine wpAnyH_take hi hs hf hr (hQ_of hp _ v) (.inl ⟨hw C a w hsim, fun w' hw' => h2 w' ?_⟩) hst ?_
  · cases k with
    | none => trivial
    | imm => exact absurd rfl hni
    | blk k =>
      obtain ⟨B, hB, hm⟩ := hk
      intro B' hB'
      rw [hB] at hB'
      obtain rfl := Option.some.inj hB'
      exact (hw'.2 _ hm).trans (hst.2 _ hm).symm
  · rw [hd]
    exact K _ _ _ (hsim.put h1) hT hlt hfr hst

theorem AD.takeSkip {fuel i t : Nat} {ld : Array Bool} (hi : ops[i]? = some o) (hs : Region.noSelect ops = true) (hf : Region.free .any ops ld i = true) (hr : (Region.ready .any ops ld).contains i = true) (hp : NP Q)
    (hw : Wants ops x o false) (hd : o.dst = some t) (K : AD P C ops S1 T fuel (ld.setIfInBounds i true) (x.put t (.v (.tuple #[]))) Q) : AD P C ops S1 T (fuel + 1) ld x Q := fun w1 a w hsim hT hlt hfr hst => by
  refine wpAnyH_take (v := undef) hi hs hf hr (hQ_of hp _ _) (.inr ⟨hw C a w hsim, rfl⟩) hst ?_
  rw [hd]
  exact K _ _ _ (hsim.put (.v _)) hT hlt hfr hst

/-- The number i comes up, with what is to hold behind it. -/
def AStep (P : Program) (C : Ctx) (ops : Array Oper) (S1 T : List Nat) (fuel : Nat) (ld : Array Bool) (x : St) (Q : Exit → St → Prop) (i : Nat) : Prop :=
  ∀ w1 a w, Sim C x a w → (∀ b ∈ T, b ∈ S1) → (∀ b ∈ S1, b < w1.heap.size) → Fr w1 S1 w (bks x.S) → Stay w1 S1 T w →
    wpOp P ops (LQ C Q) i (fun a' w' => Stay w1 S1 T w' ∧ wpAnyH P .any ops (LQ C Q) (Stay w1 S1 T) fuel (ld.setIfInBounds i true) a' w') a w

theorem AD.all {fuel : Nat} {ld : Array Bool} {rs : List Nat} (hr : Region.ready .any ops ld = rs) (hne : rs ≠ []) (h : ∀ i ∈ rs, AStep P C ops S1 T fuel ld x Q i) : AD P C ops S1 T (fuel + 1) ld x Q := fun w1 a w hsim hT hlt hfr hst =>
  wpAnyH_all hr hne fun i hi => h i hi w1 a w hsim hT hlt hfr hst

theorem AD.one {fuel i : Nat} {ld : Array Bool} (hr : Region.ready .any ops ld = [i]) (h : AStep P C ops S1 T fuel ld x Q i) : AD P C ops S1 T (fuel + 1) ld x Q :=
  AD.all hr (by simp) fun j hj => by
    have : j = i := by simpa using hj
    subst this; exact h

theorem AD.two {fuel i j : Nat} {ld : Array Bool} (hr : Region.ready .any ops ld = [i, j]) (h : AStep P C ops S1 T fuel ld x Q i) (h' : AStep P C ops S1 T fuel ld x Q j) : AD P C ops S1 T (fuel + 1) ld x Q :=
  AD.all hr (by simp) fun k hk => by
    simp only [List.mem_cons, List.not_mem_nil, or_false] at hk
    rcases hk with rfl | rfl
    · exact h
    · exact h'

theorem AD.three {fuel i j k : Nat} {ld : Array Bool} (hr : Region.ready .any ops ld = [i, j, k]) (h : AStep P C ops S1 T fuel ld x Q i) (h' : AStep P C ops S1 T fuel ld x Q j) (h'' : AStep P C ops S1 T fuel ld x Q k) : AD P C ops S1 T (fuel + 1) ld x Q :=
  AD.all hr (by simp) fun m hm => by
    simp only [List.mem_cons, List.not_mem_nil, or_false] at hm
    rcases hm with rfl | rfl | rfl
    · exact h
    · exact h'
    · exact h''

theorem AD.done {fuel : Nat} {ld : Array Bool} (hr : Region.ready .any ops ld = []) (h : Q .normal x) : AD P C ops S1 T fuel ld x Q := fun w1 a w hsim hT hlt hfr hst => wpAnyH_done hr ⟨x, hsim, h⟩ _
theorem AD0.done {fuel : Nat} {ld : Array Bool} (hr : Region.ready .any ops ld = []) (h : Q .normal x) : AD0 P C ops S1 T fuel ld x Q := fun a w hsim _ _ => wpAnyH_done hr ⟨x, hsim, h⟩ _

theorem AStep.eff {fuel i : Nat} {ld : Array Bool} {W : List Nat} {post : St → Prop} (hi : ops[i]? = some o) (hw : Wants ops x o true) (h : Eff P C.G x o W post) (hW : ∀ C a w, Sim C x a w → ∀ b ∈ T, b ∉ W) (hWx : ∀ b ∈ W, b ∈ bks x.S)
    (k : ∀ y, post y → AD P C ops S1 T fuel (ld.setIfInBounds i true) y Q) : AStep P C ops S1 T fuel ld x Q i := fun w1 a w hsim hT hlt hfr hst => by
  unfold wpOp
  simp only [hi, hw C a w hsim, if_true]
  refine .inl (h C a w _ _ rfl hsim fun y a' w' hp hs' hc hf => ?_)
  have hfr' : Fr w1 S1 w' (bks y.S) := ⟨hf.os.trans hfr.os, hf.tape.trans hfr.tape, hf.output.trans hfr.output, Nat.le_trans hfr.size hf.size, fun b hb hn => by
    obtain ⟨q1, q2⟩ := hfr.block b hb hn
    obtain ⟨q3, q4⟩ := hf.block b (Nat.lt_of_lt_of_le hb hfr.size) q2
    exact ⟨q3.trans q1, q4⟩⟩
  have hst' : Stay w1 S1 T w' := ⟨fun b hb hn => (hfr'.block b hb hn).1, fun b hb => by
    have hb1 := Nat.lt_of_lt_of_le (hlt b (hT b hb)) hfr.size
    exact (hc.2 b hb1 (hW C a w hsim b hb)).trans (hst.2 b hb)⟩
  exact ⟨hst', k y hp w1 a' w' hs' hT hlt hfr' hst'⟩

theorem AStep.still {fuel i t : Nat} {ld : Array Bool} {kd : Rd} {d : D} (hi : ops[i]? = some o) (hw : Wants ops x o true) (hd : o.dst = some t) (h : Still P C.G x o kd d) (k : AD P C ops S1 T fuel (ld.setIfInBounds i true) (x.put t d) Q) : AStep P C ops S1 T fuel ld x Q i :=
  AStep.eff hi hw (h.eff hd) (fun _ _ _ _ b _ hb => by simp at hb) (fun b hb => by simp at hb) fun y hy => by subst hy; exact k

theorem AStep.skip {fuel i t : Nat} {ld : Array Bool} (hi : ops[i]? = some o) (hw : Wants ops x o false) (hd : o.dst = some t) (k : AD P C ops S1 T fuel (ld.setIfInBounds i true) (x.put t (.v (.tuple #[]))) Q) : AStep P C ops S1 T fuel ld x Q i := fun w1 a w hsim hT hlt hfr hst => by
  unfold wpOp
  simp only [hi, hw C a w hsim, hd]
  exact ⟨hst, k w1 _ w (hsim.put (.v _)) hT hlt hfr hst⟩

theorem AStep.skip0 {fuel i : Nat} {ld : Array Bool} (hi : ops[i]? = some o) (hw : Wants ops x o false) (hd : o.dst = none) (k : AD P C ops S1 T fuel (ld.setIfInBounds i true) x Q) : AStep P C ops S1 T fuel ld x Q i := fun w1 a w hsim hT hlt hfr hst => by
  unfold wpOp
  simp only [hi, hw C a w hsim, hd]
  exact ⟨hst, k w1 _ w hsim hT hlt hfr hst⟩

theorem AD.wk {fuel : Nat} {ld : Array Bool} (h : Wk x y) (hb : bks y.S = bks x.S) (k : AD P C ops S1 T fuel ld y Q) : AD P C ops S1 T fuel ld x Q := fun w1 a w hsim hT hlt hfr hst => k w1 a w (h C a w hsim) hT hlt (hb ▸ hfr) hst

theorem AD.wkSub {fuel : Nat} {ld : Array Bool} (h : Wk x y) (hb : ∀ b ∈ bks y.S, b ∈ bks x.S) (k : AD P C ops S1 T fuel ld y Q) : AD P C ops S1 T fuel ld x Q := fun w1 a w hsim hT hlt hfr hst =>
  k w1 a w (h C a w hsim) hT hlt ⟨hfr.os, hfr.tape, hfr.output, hfr.size, fun b h1 h2 => ⟨(hfr.block b h1 h2).1, fun h3 => (hfr.block b h1 h2).2 (hb b h3)⟩⟩ hst

/-- The region. T: the owned blocks that its loads may look at first, and nobody writes in it. -/
theorem CD.draw {id : Nat} {l : List Oper} (T : List Nat) (hm : P.follows .mixedOrders = true) (hT : ∀ b ∈ T, b ∈ bks x.S) (h : AD0 P C l.toArray (bks x.S) T l.toArray.size (Array.replicate l.toArray.size false) x Q) : CD P C (.region id l.toArray true) x Q := fun a w hs =>
  wp_region_held (S := Stay { w with drawn := w.drawn + 1 } (bks x.S) T) hm (h a _ ⟨hs.defers, hs.size, fun t ht => (hs.env t ht).mono fun b _ hn => ⟨rfl, hn⟩, ⟨fun B hB => by
    obtain ⟨r0, cur, r1, r2, r3, r4⟩ := hs.own.at_ B hB
    exact ⟨r0, cur, r1, r2, r3, fun i hi => by
      obtain ⟨u, hu, hq⟩ := r4 i hi
      exact ⟨u, hu, hq.mono fun b _ hn => ⟨rfl, hn⟩⟩⟩, hs.own.apart⟩, ⟨hs.fr.os, hs.fr.tape, hs.fr.output, hs.fr.size, hs.fr.block⟩, hs.ex, hs.tab⟩ rfl hT)

/-- Two owned blocks are two. -/
theorem blk_ne {C : Ctx} {a : Act} {w : World} (h : Sim C x a w) {i j : Nat} {A B : Blk} (hi : x.S[i]? = some A) (hj : x.S[j]? = some B) (hij : i ≠ j) : A.b ≠ B.b := by
  obtain ⟨h1, h2⟩ := List.getElem?_eq_some_iff.1 hi
  obtain ⟨h3, h4⟩ := List.getElem?_eq_some_iff.1 hj
  have hp := List.pairwise_iff_getElem.1 h.own.apart
  subst h2 h4
  rcases Nat.lt_trichotomy i j with hlt | heq | hgt
  · have := hp i j (by simpa [bks] using h1) (by simpa [bks] using h3) hlt
    simpa [bks] using this
  · exact absurd heq hij
  · have := hp j i (by simpa [bks] using h3) (by simpa [bks] using h1) hgt
    intro he
    exact this (by simp [bks, he])

end Go.Proofs.YtcogdagfcndbfaaDoor.V
