/-
  What the proof of TreeBad leans on, part 2 of 5: walks of the program's functions at the level of values, and plain facts of what they compute.
-/
import Derived.Test.YthnobhekodiciaaPTreeBad1
namespace Go.Proofs.Ythnobhekodiciaa.V
open Go.RowKit
set_option linter.unusedVariables false
set_option linter.unusedSimpArgs false

variable {P : Program} {C : Ctx} {G : List (Nat × List Value)} {Q : Exit → St → Prop} {x : St} {ops : Array Oper} {l : List Oper} {o : Oper} {S1 T : List Nat} {fuel i : Nat} {ld : Array Bool}

/-- What reads as d where S is owned, reads as d' for somebody who only looks at it. -/
def View (S : List Blk) (d d' : D) : Prop := ∀ (X Y : Nat → Prop) w v, (∀ b, Y b → X b) → (∀ b, X b → b ∉ bks S) → Own w (live X S) S → Rep w (live X S) d v → Rep w Y d' v

theorem Rep.bare {w : World} {X Y : Nat → Prop} {S : List Blk} {d : D} {v : Value} (h : Rep w (live X S) d v) (hY : ∀ b, Y b → X b) : Rep w Y d v := h.mono fun b _ hn => ⟨rfl, fun hy => hn (.inl (hY b hy))⟩

theorem view_same {S : List Blk} {d : D} : View S d d := fun X Y w v hY _ _ h => h.bare hY
theorem view_nil {S : List Blk} {sz : Nat} : View S (.v (.slice none 0 0)) (.list sz [] 0) := fun X Y w v _ _ _ h => by rw [h.v_eq]; exact .nil sz

theorem view_row {S : List Blk} {k sz n cap b : Nat} {B : Blk} {cs : List D} (hk : S[k]? = some B) (hb : B.b = b) (hcs : B.cs = cs) (hl : cs.length = n * sz) (h1 : n ≤ cap) (h2 : cap ≤ maxLen) (hne : isMap B.e = false := by rfl) : View S (.v (.slice (some ⟨b, 0, none⟩) n cap)) (.list sz cs n) := fun X Y w v hY hX ho h => by
 subst hb hcs
 rw [h.v_eq]
 obtain ⟨r0, cur, r1, r2, r3, r4⟩ := ho.at_ B (List.mem_of_getElem? hk)
 rw [ob_cells hne] at r1
 refine .list sz B.cs n B.b 0 cap (fun i => cur.getD i undef) hl h1 h2 r0 (fun hy => hX _ (hY _ hy) (List.mem_map.2 ⟨B, List.mem_of_getElem? hk, rfl⟩)) (fun i hi => ?_) (fun i hi => ?_)
 ·obtain ⟨u, hu, _⟩ := r4 i hi
  rw [Nat.zero_add, cell_blk r1 hu]
  simp [hu]
 ·obtain ⟨u, hu, hq⟩ := r4 i hi
  simp only [Array.getD_eq_getD_getElem?, hu, Option.getD_some]
  exact hq.bare hY

def Views (S : List Blk) : List D → List D → Prop
 | [], [] => True
 | d :: r, d' :: r' => View S d d' ∧ Views S r r'
 | _, _ => False

theorem Views.spec {S : List Blk} : ∀ {ds ds' : List D}, Views S ds ds' → ds.length = ds'.length ∧ ∀ i (h : i < ds.length) (h' : i < ds'.length), View S ds[i] ds'[i]
 | [], [], _ => ⟨rfl, fun i h => by simp at h⟩
 | d :: r, d' :: r', h => ⟨by simp [(Views.spec h.2).1], fun i h1 h2 => by
  cases i with
  | zero => exact h.1
  | succ i => exact (Views.spec h.2).2 i _ _⟩
 | [], _ :: _, h => h.elim
 | _ :: _, [], h => h.elim

theorem view_agg {S : List Blk} {ds ds' : List D} (h : Views S ds ds') : View S (.agg ds) (.agg ds') := fun X Y w v hY hX ho hr => by
 obtain ⟨h1, h2⟩ := h.spec
 cases hr with
 | agg _ vs hl hrr => exact .agg ds' vs (by omega) fun i q1 q2 => h2 i (by omega) q1 X Y w _ hY hX ho (hrr i (by omega) q2)

/-- The operands, as somebody who only looks at them has them. -/
def Looks (x : St) : List Operand → List D → Prop
  | [], [] => True
  | o :: r, d :: r' => (∃ d0, opd x o = d0 ∧ View x.S d0 d) ∧ Looks x r r'
  | _, _ => False

theorem Looks.rep {C : Ctx} {a : Act} {w : World} (h : Sim C x a w) : ∀ {os : List Operand} {ds : List D}, Looks x os ds → RepL w (fun _ => False) ds (os.map a.eval)
 | [], [], _ => ⟨rfl, fun i h => by simp at h⟩
 | o :: r, d :: r', ⟨⟨d0, h1, h2⟩, h3⟩ => RepL.cons (h2 _ _ _ _ (fun _ hf => hf.elim) h.exS h.own (h1 ▸ h.eval o)) (Looks.rep h h3)
 | [], _ :: _, h => h.elim
 | _ :: _, [], h => h.elim

/-- What a call made of its own, given up to reading. -/
theorem VC.cover {f : FuncId} {args : List D} {post : D → List Blk → Prop} {r' : D} (h : VC P G f args [] post) (hv : ∀ r S', post r S' → View S' r r') : VP P G f args r' := fun X w vs hp =>
  (h X w vs hp).mono fun e w' ⟨v, r, S', h1, h2, h3, h4, h5⟩ => by
    have hX : ∀ b, X b → b ∉ bks S' := fun b hb => (h5.block b (hp.ex b hb).1 (hp.ex b hb).2).2
    refine ⟨v, r', [], h1, ⟨rfl, rfl⟩, ⟨fun B hB => by simp at hB, by simp [bks]⟩, hv r S' h2 X _ w' v (fun b hb => ?_) hX h3 h4, ⟨h5.os, h5.tape, h5.output, h5.size, fun b hb hn => ⟨(h5.block b hb hn).1, by simp [bks]⟩⟩⟩
    rcases hb with hb | hb
    · exact hb
    · simp [bks] at hb

/-- What hangs on no block. -/
def flatD : D → Bool
  | .v _ => true
  | .tup cs => cs.all fun d => match d with | .v _ => true | .agg es => es.all (fun e => match e with | .v _ => true | _ => false) | _ => false
  | .agg cs => cs.all fun d => match d with | .v _ => true | _ => false
  | _ => false

theorem Rep.flat {w w' : World} {L L' : Nat → Prop} {d : D} {v : Value} (h : Rep w L d v) (hf : flatD d = true) : Rep w' L' d v := by
 have key : ∀ (d : D), (match d with | .v _ => true | _ => false) = true → ∀ v, Rep w L d v → Rep w' L' d v := fun d hd v h => by
  cases d <;> simp at hd
  rw [h.v_eq]; exact .v _
 have key2 : ∀ (d : D), (match d with | .v _ => true | .agg es => es.all (fun e => match e with | .v _ => true | _ => false) | _ => false) = true → ∀ v, Rep w L d v → Rep w' L' d v := fun d hd v h => by
  cases d <;> simp at hd
  ·rw [h.v_eq]; exact .v _
  ·cases h with
   | agg _ vs hl hr => exact .agg _ vs hl fun i h1 h2 => key _ (by have := hd _ (List.getElem_mem h1); simpa using this) _ (hr i h1 h2)
 cases h with
 | v => exact .v _
 | tup cs vs hl hr => exact .tup cs vs hl fun i h1 h2 => key2 _ (List.all_eq_true.1 hf _ (List.getElem_mem h1)) _ (hr i h1 h2)
 | agg cs vs hl hr => exact .agg cs vs hl fun i h1 h2 => key _ (List.all_eq_true.1 hf _ (List.getElem_mem h1)) _ (hr i h1 h2)
 | _ => cases hf

/-- A call that only looks at what is owned here, and returns something plain. -/
theorem eff_look {f t : Nat} {fo : Operand} {ars : Array Operand} {ts : Array TypeId} {args : List D} {r : D} (ho : o.op = .call { callee := .value fo, args := ars, argTypes := ts }) (hd : o.dst = some t)
    (hf : fo = .func f) (hcall : ∀ args w, (callFunc f args).run P w = .ok (.enter f args) w) (hc : VP P G f args r) (hr : flatD r = true) (ha : Looks x ars.toList args) :
    Eff P G x o [] (fun y => y = x.put t r) := fun C a w K Q hG h hK => by
  subst hf
  have hrun : (execOp a.eval o).run P w = .ok (.enter f (ars.toList.map a.eval).toArray) w := by
    unfold execOp
    have e : ars.map a.eval = (ars.toList.map a.eval).toArray := by
      rw [← Array.toList_map, Array.toArray_toList]
    simp only [ho, resolve, Act.eval, Deferred.ofValue, Sem.run_bind, Sem.run_pure, Result.andThen_ok, invoke, e]
    simp [hcall]
  have hpre : Pre G (fun _ => False) w [] args (ars.toList.map a.eval) := by
    refine ⟨fun b hx => hx.elim, fun g hg => ?_, ⟨fun B hB => by simp at hB, by simp [bks]⟩, (Looks.rep h ha).mono fun b _ _ => ⟨rfl, fun hl => by rcases hl with hl | hl; exact hl; simp [bks] at hl⟩⟩
    rw [← hG] at hg
    exact ⟨⟨Nat.lt_of_lt_of_le (h.tab g hg).1.1 h.fr.size, by simp [bks], id⟩, fun i v hi => h.tabAt hg hi⟩
  unfold Oper.wp
  rw [hrun, Oper.upon_enter, hd]
  refine (hc _ w _ hpre).mono fun e w' ⟨v, r', S', h1, ⟨h2, h2'⟩, h3, h4, h5⟩ => ?_
  subst h1 h2 h2'
  have hb : ∀ b, b < w.heap.size → w'.heap[b]? = w.heap[b]? := fun b hb => (h5.block b hb (by simp [bks])).1
  have base : Sim C x a w' := by
    refine ⟨h.defers, h.size, fun t ht => (h.env t ht).mono fun b hb' hn => ⟨hb b hb', hn⟩, ⟨fun B hB => ?_, h.own.apart⟩, ?_, h.ex, h.tab⟩
    · obtain ⟨r0, cur, r1, r2, r3, r4⟩ := h.own.at_ B hB
      refine ⟨lt_of_same r0 (hb _ r0), cur, (hb _ r0).trans r1, r2, r3, fun i hi => ?_⟩
      obtain ⟨u, hu, hq⟩ := r4 i hi
      exact ⟨u, hu, hq.mono fun b hb' hn => ⟨hb b hb', hn⟩⟩
    · exact ⟨h5.os.trans h.fr.os, h5.tape.trans h.fr.tape, h5.output.trans h.fr.output, Nat.le_trans h.fr.size h5.size, fun b hb' hn => ⟨(hb b (Nat.lt_of_lt_of_le hb' h.fr.size)).trans (h.fr.block b hb' hn).1, (h.fr.block b hb' hn).2⟩⟩
  exact hK _ _ _ rfl (base.put (h4.flat hr)) ⟨h5.size, fun b hb' _ => hb b hb'⟩ ⟨h5.os, h5.tape, h5.output, h5.size, fun b hb' hn => ⟨hb b hb', hn⟩⟩

theorem OD.look {f t : Nat} {fo : Operand} {ars : Array Operand} {ts : Array TypeId} {args : List D} {r : D} (hw : Wants ops x o true) (ho : o.op = .call { callee := .value fo, args := ars, argTypes := ts }) (hd : o.dst = some t)
  (hf : fo = .func f) (hcall : ∀ args w, (callFunc f args).run P w = .ok (.enter f args) w) (hc : VP P C.G f args r) (hr : flatD r = true) (ha : Looks x ars.toList args)
  (K : OD P C ops l (x.put t r) Q) : OD P C ops (o :: l) x Q := OD.eff hw (eff_look ho hd hf hcall hc hr ha) fun y hy => hy ▸ K

theorem AStep.look {f t : Nat} {fo : Operand} {ars : Array Operand} {ts : Array TypeId} {args : List D} {r : D} (hi : ops[i]? = some o) (hw : Wants ops x o true) (ho : o.op = .call { callee := .value fo, args := ars, argTypes := ts }) (hd : o.dst = some t)
  (hf : fo = .func f) (hcall : ∀ args w, (callFunc f args).run P w = .ok (.enter f args) w) (hc : VP P C.G f args r) (hr : flatD r = true) (ha : Looks x ars.toList args)
  (K : AD P C ops S1 T fuel (ld.setIfInBounds i true) (x.put t r) Q) : AStep P C ops S1 T fuel ld x Q i := AStep.eff0 hi hw (eff_look ho hd hf hcall hc hr ha) fun y hy => hy ▸ K

/-! ### nil -/

/-- Is a list nil? If so, it is empty. -/
theorem eff_eqNil {t t' e : TypeId} {tt sz n : Nat} {cs : List D} {y z : Operand} (ho : o.op = .binOp .eql t y z t') (hd : o.dst = some tt) (hy : opd x y = .list sz cs n) (hz : opd x z = .v (.slice none 0 0)) (ht : P.underlying t = some (.slice e)) :
    Eff P G x o [] (fun s => ∃ b : Bool, (b = true → n = 0 ∧ cs = []) ∧ s = x.put tt (.v (.bool b))) := fun C a w K Q hG h hK => by
  have hr := h.eval y
  rw [hy] at hr
  generalize hg : a.eval y = u at hr
  have hrun : ∀ ad len cap, u = .slice ad len cap → (execOp a.eval o).run P w = .ok (.value (.bool ad.isNone)) w := fun ad len cap hu => by
    subst hu
    unfold execOp
    have e1 : binOp .eql t (.slice ad len cap) (.slice none 0 0) = (do pure (.bool (← Op.equal t (.slice ad len cap) (.slice none 0 0)))) := rfl
    simp only [ho, hg, h.flat hz, eqGuard, e1, Sem.run_bind]
    simp [run_equal_slice_nil w t e ad len cap ht]
  unfold Oper.wp
  cases hr with
  | void _ ad cap =>
    rw [hrun ad 0 cap rfl, Oper.upon_value, hd]
    exact hK _ _ _ ⟨ad.isNone, fun _ => ⟨rfl, rfl⟩, rfl⟩ (h.put (.v _)) (Chg.refl _ _) (Fr.refl _ _)
  | list _ _ _ b o' cap f hl q1 q2 hb hL hc hrr =>
    rw [hrun (some ⟨b, o', none⟩) n cap rfl, Oper.upon_value, hd]
    exact hK _ _ _ ⟨false, (fun hh => absurd hh (by simp)), rfl⟩ (h.put (.v _)) (Chg.refl _ _) (Fr.refl _ _)

theorem OD.eqNil {t t' e : TypeId} {tt sz n : Nat} {cs : List D} {y z : Operand} (hw : Wants ops x o true) (ho : o.op = .binOp .eql t y z t') (hd : o.dst = some tt) (hy : opd x y = .list sz cs n) (hz : opd x z = .v (.slice none 0 0)) (ht : P.underlying t = some (.slice e))
  (K : ∀ b : Bool, (b = true → n = 0 ∧ cs = []) → OD P C ops l (x.put tt (.v (.bool b))) Q) : OD P C ops (o :: l) x Q :=
 OD.eff hw (eff_eqNil ho hd hy hz ht) fun y ⟨b, hb, hy⟩ => hy ▸ K b hb

/-- An empty literal. -/
theorem eff_bldS0 {t e : TypeId} {tt sz : Nat} (ho : o.op = .buildSlice t 0 #[]) (hdst : o.dst = some tt) (hu : ∀ w, (underlying t).run P w = .ok (.slice e) w) (hs : ∀ w, (sizeOf e).run P w = .ok sz w) (hne : isMap e = false := by rfl) :
    Eff P G x o [] (fun s => ∃ b, s = ⟨x.n, (tt, .v (.slice (some ⟨b, 0, none⟩) 0 0)) :: x.env, ⟨b, e, 0 * sz, []⟩ :: x.S⟩) := fun C a w K Q hG h hK => by
  unfold Oper.wp
  have : (execOp a.eval o).run P w = .ok (.value (.slice (some ⟨w.heap.size, 0, none⟩) 0 0)) (w.alloc (.cells #[] e)) := by
    unfold execOp
    have e0 : Array.map (fun x => (default : Value)) (Array.range 0) = #[] := Array.eq_empty_of_size_eq_zero (by simp)
    simp [ho, Instr.buildSlice, hu, hs, Instr.fill, newRow, e0]
  rw [this, Oper.upon_value, hdst]
  exact hK _ _ _ ⟨w.heap.size, rfl⟩ (h.new (hne := hne) (ds := []) (RepL.nil _ _) (by simp) (fun L => .v _)) (Chg.alloc _ _) (Fr.alloc _ _ _)

theorem OD.bldS0 {t e : TypeId} {tt sz : Nat} (hw : Wants ops x o true) (ho : o.op = .buildSlice t 0 #[]) (hdst : o.dst = some tt) (hu : ∀ w, (underlying t).run P w = .ok (.slice e) w) (hs : ∀ w, (sizeOf e).run P w = .ok sz w)
  (K : ∀ b, OD P C ops l ⟨x.n, (tt, .v (.slice (some ⟨b, 0, none⟩) 0 0)) :: x.env, ⟨b, e, 0 * sz, []⟩ :: x.S⟩ Q) (hne : isMap e = false := by rfl) : OD P C ops (o :: l) x Q :=
 OD.eff hw (eff_bldS0 (hne := hne) ho hdst hu hs) fun y ⟨b, hy⟩ => hy ▸ K b

/-- One's own list, nil or a row. -/
def OwnL (e sz : Nat) (cs : List D) (n : Nat) (ad : Option Addr) (cap : Nat) (S : List Blk) : Prop :=
  (n = 0 ∧ cs = [] ∧ ad = none ∧ cap = 0 ∧ S = []) ∨ ∃ b, ad = some ⟨b, 0, none⟩ ∧ n ≤ cap ∧ cap ≤ maxLen ∧ S = [⟨b, e, cap * sz, cs⟩]

theorem view_own {S Sq : List Blk} {e sz n cap : Nat} {cs : List D} {ad : Option Addr} (h : OwnL e sz cs n ad cap Sq) (hl : cs.length = n * sz) (hs : ∀ B ∈ Sq, B ∈ S) (hne : isMap e = false := by rfl) : View S (.v (.slice ad n cap)) (.list sz cs n) := by
 rcases h with ⟨rfl, rfl, rfl, rfl, rfl⟩ | ⟨b, rfl, h1, h2, rfl⟩
 ·exact view_nil
 ·obtain ⟨k, hk, he⟩ := List.mem_iff_getElem.1 (hs _ List.mem_cons_self)
  exact view_row (hne := hne) (k := k) (by rw [List.getElem?_eq_getElem hk, he]) rfl rfl hl h1 h2

theorem OwnL.le {e sz n cap : Nat} {cs : List D} {ad : Option Addr} {S : List Blk} (h : OwnL e sz cs n ad cap S) : n ≤ cap := by
 rcases h with ⟨rfl, _, _, rfl, _⟩ | ⟨_, _, h, _⟩
 ·exact Nat.le_refl _
 ·exact h

/-- The order in which one's blocks are told does not matter. -/
theorem Wk.perm {n : Nat} {env : List (Nat × D)} {S S' : List Blk} (hp : S.Perm S') : Wk ⟨n, env, S⟩ ⟨n, env, S'⟩ := fun C a w h => by
  have hb : (bks S).Perm (bks S') := hp.map Blk.b
  have hl : live C.X S = live C.X S' := by funext b; exact propext (or_congr Iff.rfl hb.mem_iff)
  have henv := h.env
  have hown := h.own
  simp only [hl] at henv hown
  exact ⟨h.defers, h.size, henv, ⟨fun B hB => hown.at_ B (hp.symm.subset hB), hb.nodup_iff.1 hown.apart⟩,
    ⟨h.fr.os, h.fr.tape, h.fr.output, h.fr.size, fun b h1 h2 => ⟨(h.fr.block b h1 h2).1, fun hm => (h.fr.block b h1 h2).2 (hb.symm.subset hm)⟩⟩, h.ex, h.tab⟩

theorem OD.perm {S' : List Blk} (hp : x.S.Perm S') (k : OD P C ops l ⟨x.n, x.env, S'⟩ Q) : OD P C ops l x Q := OD.wk (Wk.perm hp) k
theorem AD.perm {S' : List Blk} (hp : x.S.Perm S') (k : AD P C ops S1 T fuel ld ⟨x.n, x.env, S'⟩ Q) : AD P C ops S1 T fuel ld x Q := AD.wkSub (Wk.perm hp) (fun b hb => (hp.map Blk.b).symm.subset hb) k
theorem CD.perm {c : Code} {S' : List Blk} (hp : x.S.Perm S') (k : CD P C c ⟨x.n, x.env, S'⟩ Q) : CD P C c x Q := CD.wk (Wk.perm hp) k

/-- What one owns through a block's cells is given up to reading. -/
theorem Wk.cover {n : Nat} {l : List (Nat × D)} {S R Sd : List Blk} {A : Blk} {cs' : List D} (hp : S.Perm ((A :: R) ++ Sd)) (hv : Views Sd A.cs cs') : Wk ⟨n, l, S⟩ ⟨n, l, { A with cs := cs' } :: R⟩ := fun C a w h0 => by
  have h := Wk.perm hp C a w h0
  have hd : Sim C ⟨n, l, A :: R⟩ a w := Wk.drop n l _ (A :: R) (List.sublist_append_left _ _) C a w h
  obtain ⟨v1, v2⟩ := hv.spec
  have hlive : live C.X ({ A with cs := cs' } :: R) = live C.X (A :: R) := rfl
  have hL : live C.X ((A :: R) ++ Sd) = live (fun b => live C.X (A :: R) b) Sd := by
    funext b
    simp only [live, bks, List.map_append, List.mem_append]
    exact propext or_assoc.symm
  have hnd : (bks (A :: R) ++ bks Sd).Nodup := by have := h.own.apart; simpa [bks] using this
  have hX : ∀ b, live C.X (A :: R) b → b ∉ bks Sd := fun b hb hm => by
    rcases hb with hb | hb
    · exact h.exS b hb (by simp only [bks, List.map_append, List.mem_append] at hm ⊢; exact .inr hm)
    · exact (List.nodup_append.1 hnd).2.2 b hb b hm rfl
  have hOwn : Own w (live (fun b => live C.X (A :: R) b) Sd) Sd := ⟨fun B hB => by rw [← hL]; exact h.own.at_ B (List.mem_append_right _ hB), (List.nodup_append.1 hnd).2.1⟩
  refine ⟨hd.defers, hd.size, hd.env, ⟨fun B hB => ?_, hd.own.apart⟩, hd.fr, hd.ex, hd.tab⟩
  rcases List.mem_cons.1 hB with rfl | hB
  · obtain ⟨r0, cur, r1, r2, r3, r4⟩ := h.own.at_ A (List.mem_append_left _ List.mem_cons_self)
    refine ⟨r0, cur, r1, r2, by rw [← v1]; exact r3, fun i hi => ?_⟩
    have hi' : i < A.cs.length := by rw [v1]; exact hi
    obtain ⟨u, hu, hq⟩ := r4 i hi'
    refine ⟨u, hu, v2 i hi' hi (fun b => live C.X (A :: R) b) _ w u (fun b hb => hb) hX hOwn ?_⟩
    rw [← hL]; exact hq
  · exact hd.own.at_ B (List.mem_cons_of_mem _ hB)

theorem OD.cover {R Sd : List Blk} {A : Blk} {cs' : List D} (hp : x.S.Perm ((A :: R) ++ Sd)) (hv : Views Sd A.cs cs') (k : OD P C ops l ⟨x.n, x.env, { A with cs := cs' } :: R⟩ Q) : OD P C ops l x Q := OD.wk (Wk.cover hp hv) k

theorem perm_erase {S R : List Blk} {k : Nat} {B : Blk} (hk : S[k]? = some B) (hp : S.Perm (B :: R)) : (S.eraseIdx k).Perm R := ((perm_pick hk).symm.trans hp).cons_inv

theorem OD.give {k t m cap sz b : Nat} {B : Blk} {cs : List D} (hk : x.S[k]? = some B) (ht : V.look t x.env = .v (.slice (some ⟨b, 0, none⟩) m cap)) (hb : B.b = b) (hcs : B.cs = cs) (hl : cs.length = m * sz) (h1 : m ≤ cap) (h2 : cap ≤ maxLen)
  (K : OD P C ops l ⟨x.n, (t, .list sz cs m) :: x.env, x.S.eraseIdx k⟩ Q) (hne : isMap B.e = false := by rfl) : OD P C ops l x Q := by
 subst hb; exact OD.wk (Wk.give (hne := hne) (n := x.n) (l := x.env) (S := x.S) hk ht hcs hl h1 h2) K
theorem AD.give {k t m cap sz b : Nat} {B : Blk} {cs : List D} (hk : x.S[k]? = some B) (ht : V.look t x.env = .v (.slice (some ⟨b, 0, none⟩) m cap)) (hb : B.b = b) (hcs : B.cs = cs) (hl : cs.length = m * sz) (h1 : m ≤ cap) (h2 : cap ≤ maxLen)
  (K : AD P C ops S1 T fuel ld ⟨x.n, (t, .list sz cs m) :: x.env, x.S.eraseIdx k⟩ Q) (hne : isMap B.e = false := by rfl) : AD P C ops S1 T fuel ld x Q := by
 subst hb; exact AD.wkSub (Wk.give (hne := hne) (n := x.n) (l := x.env) (S := x.S) hk ht hcs hl h1 h2) (fun b hb => (List.Sublist.map Blk.b (List.eraseIdx_sublist x.S k)).subset hb) K

/-- append onto a list of one's own, nil or a row. -/
theorem OD.appendOwn {s y : Operand} {t e tt sz bytes n m cap : Nat} {ad : Option Addr} {z : Value} {cs new : List D} {Sq R : List Blk} (hw : Wants ops x o true) (ho : o.op = .call { callee := .builtin .append, args := #[s, y], argTypes := #[t, t] }) (hd : o.dst = some tt)
    (ht : P.underlying t = some (.slice e)) (hi : (P.info? e).map (fun i => (i.zero, i.size, i.bytes)) = some (some z, sz, bytes)) (hzs : z.cells.size = sz) (hsz : 0 < sz)
    (hs : opd x s = .v (.slice ad n cap)) (ho' : OwnL e sz cs n ad cap Sq) (hp : x.S.Perm (Sq ++ R)) (hl : cs.length = n * sz)
    (hy : opd x y = .list sz new m) (hone : ∀ d ∈ new, one d = true) (hm : 0 < m) (h63 : n + m ≤ maxLen) (hbytes : (n + m) * bytes ≤ 140737488355328)
    (K : ∀ b' cap', n + m ≤ cap' → cap' ≤ maxLen → OD P C ops l ⟨x.n, (tt, .v (.slice (some ⟨b', 0, none⟩) (n + m) cap')) :: x.env, ⟨b', e, cap' * sz, cs ++ new⟩ :: R⟩ Q) (hne : isMap e = false := by rfl) : OD P C ops (o :: l) x Q := by
  rcases ho' with ⟨rfl, rfl, rfl, rfl, rfl⟩ | ⟨b, rfl, h1, h2, rfl⟩
  · refine OD.appendNil (hne := hne) hw ho hd ht hi hzs hsz hs hy hone hm (by omega) (by rw [Nat.zero_add] at hbytes; exact hbytes) fun b' cap' q1 q2 => ?_
    have := K b' cap' (by omega) q2
    rw [Nat.zero_add] at this
    exact OD.wk (Wk.perm (hp.cons _)) this
  · obtain ⟨k, hk, he⟩ := List.mem_iff_getElem.1 (hp.symm.subset (List.mem_append_left _ List.mem_cons_self))
    have hk' : x.S[k]? = some (⟨b, e, cap * sz, cs⟩ : Blk) := by rw [List.getElem?_eq_getElem hk, he]
    refine OD.append (hne := hne) hw ho hd ht hi hzs hsz hs hk' rfl rfl rfl hl h1 h2 hy hone hm h63 hbytes fun b' cap' q1 q2 => ?_
    exact OD.wk (Wk.perm ((perm_erase hk' hp).cons _)) (K b' cap' q1 q2)

theorem AStep.appendOwn {s y : Operand} {t e tt sz bytes n m cap : Nat} {ad : Option Addr} {z : Value} {cs new : List D} {Sq R : List Blk} (hi' : ops[i]? = some o) (hw : Wants ops x o true) (ho : o.op = .call { callee := .builtin .append, args := #[s, y], argTypes := #[t, t] }) (hd : o.dst = some tt)
  (ht : P.underlying t = some (.slice e)) (hi : (P.info? e).map (fun i => (i.zero, i.size, i.bytes)) = some (some z, sz, bytes)) (hzs : z.cells.size = sz) (hsz : 0 < sz)
  (hs : opd x s = .v (.slice ad n cap)) (ho' : OwnL e sz cs n ad cap Sq) (hp : x.S.Perm (Sq ++ R)) (hl : cs.length = n * sz)
  (hy : opd x y = .list sz new m) (hone : ∀ d ∈ new, one d = true) (hm : 0 < m) (h63 : n + m ≤ maxLen) (hbytes : (n + m) * bytes ≤ 140737488355328) (hT : ∀ b ∈ T, b ∈ bks R)
  (K : ∀ b' cap', n + m ≤ cap' → cap' ≤ maxLen → AD P C ops S1 T fuel (ld.setIfInBounds i true) ⟨x.n, (tt, .v (.slice (some ⟨b', 0, none⟩) (n + m) cap')) :: x.env, ⟨b', e, cap' * sz, cs ++ new⟩ :: R⟩ Q) (hne : isMap e = false := by rfl) : AStep P C ops S1 T fuel ld x Q i := by
 rcases ho' with ⟨rfl, rfl, rfl, rfl, rfl⟩ | ⟨b, rfl, h1, h2, rfl⟩
 ·refine AStep.appendNil (hne := hne) hi' hw ho hd ht hi hzs hsz hs hy hone hm (by omega) (by rw [Nat.zero_add] at hbytes; exact hbytes) fun b' cap' q1 q2 => ?_
  have := K b' cap' (by omega) q2
  rw [Nat.zero_add] at this
  exact AD.wkSub (Wk.perm (hp.cons _)) (fun b hb => ((hp.cons _).map Blk.b).symm.subset hb) this
 ·obtain ⟨k, hk, he⟩ := List.mem_iff_getElem.1 (hp.symm.subset (List.mem_append_left _ List.mem_cons_self))
  have hk' : x.S[k]? = some (⟨b, e, cap * sz, cs⟩ : Blk) := by rw [List.getElem?_eq_getElem hk, he]
  refine AStep.append (hne := hne) hi' hw ho hd ht hi hzs hsz hs hk' rfl rfl rfl hl h1 h2 hy hone hm h63 hbytes (fun b hb => ((perm_erase hk' hp).map Blk.b).symm.subset (hT b hb)) fun b' cap' q1 q2 => ?_
  exact AD.wkSub (Wk.perm ((perm_erase hk' hp).cons _)) (fun b hb => (((perm_erase hk' hp).cons _).map Blk.b).symm.subset hb) (K b' cap' q1 q2)

/-- A store somewhere in a row. -/
theorem OD.storeAt {t : TypeId} {k b o' n : Nat} {B : Blk} {d : D} {cs' : List D} {y z : Operand} (hw : Wants ops x o true) (ho : o.op = .store t y z) (hdst : o.dst = none) (hy : opd x y = .v (.pointer (some ⟨b, o', none⟩)))
    (hk : x.S[k]? = some B) (hb : B.b = b) (hz : opd x z = d) (hj : solid d = true) (h1 : (cellsOf d).all one = true) (hn : ∀ w, (sizeOf t).run P w = .ok n w) (hln : (cellsOf d).length = n) (hl : o' + n ≤ B.cs.length) (hcs : setAll B.cs o' (cellsOf d) = cs')
    (K : OD P C ops l ⟨x.n, x.env, x.S.set k { B with cs := cs' }⟩ Q) (hne : isMap B.e = false := by rfl) : OD P C ops (o :: l) x Q :=
  OD.eff hw (eff_store (hne := hne) ho hdst hy hk hb hz (fun h => by rw [h] at hj; cases hj) h1 hn hln hl hcs) fun y hy => hy ▸ K

theorem AStep.storeAt {t : TypeId} {k b o' n : Nat} {B : Blk} {d : D} {cs' : List D} {y z : Operand} (hi : ops[i]? = some o) (hw : Wants ops x o true) (ho : o.op = .store t y z) (hdst : o.dst = none) (hy : opd x y = .v (.pointer (some ⟨b, o', none⟩)))
  (hk : x.S[k]? = some B) (hb : B.b = b) (hz : opd x z = d) (hj : solid d = true) (h1 : (cellsOf d).all one = true) (hn : ∀ w, (sizeOf t).run P w = .ok n w) (hln : (cellsOf d).length = n) (hl : o' + n ≤ B.cs.length) (hcs : setAll B.cs o' (cellsOf d) = cs')
  (hT : ∀ b ∈ T, b ∈ bks (x.S.eraseIdx k))
  (K : AD P C ops S1 T fuel (ld.setIfInBounds i true) ⟨x.n, x.env, x.S.set k { B with cs := cs' }⟩ Q) (hne : isMap B.e = false := by rfl) : AStep P C ops S1 T fuel ld x Q i :=
 AStep.eff hi hw (eff_store (hne := hne) ho hdst hy hk hb hz (fun h => by rw [h] at hj; cases hj) h1 hn hln hl hcs) (fun C a w hs b' hb' => hb ▸ away hs hk hT b' hb') (fun b' hb' => by
  have : b' = b := by simpa using hb'
  subst this; rw [← hb]; exact mem_bks hk) fun y hy => hy ▸ K

end Go.Proofs.Ythnobhekodiciaa.V

namespace Go.Proofs.Ythnobhekodiciaa.V
open Go.RowKit
set_option linter.unusedVariables false
set_option linter.unusedSimpArgs false

variable {P : Program} {G : List (Nat × List Value)} {x : St} {o : Oper} {S : List Blk}

/-- What an operation makes of an operand that reads as d0 (S: what is owned). -/
def R1 (P : Program) (G : List (Nat × List Value)) (S : List Blk) (mk : Operand → Op) (d0 : D) (k : Rd) (d : D) : Prop := ∀ x o y, o.op = mk y → opd x y = d0 → x.S = S → Still P G x o k d

theorem still_r1 {mk : Operand → Op} {y : Operand} {d0 d : D} {k : Rd} (ho : o.op = mk y) (hy : opd x y = d0) (H : R1 P G x.S mk d0 k d) : Still P G x o k d := H x o y ho hy rfl

/-- The same with two operands. -/
def R2 (P : Program) (G : List (Nat × List Value)) (S : List Blk) (mk : Operand → Operand → Op) (d0 d1 : D) (k : Rd) (d : D) : Prop := ∀ x o y z, o.op = mk y z → opd x y = d0 → opd x z = d1 → x.S = S → Still P G x o k d

theorem still_r2 {mk : Operand → Operand → Op} {y z : Operand} {d0 d1 d : D} {k : Rd} (ho : o.op = mk y z) (hy : opd x y = d0) (hz : opd x z = d1) (H : R2 P G x.S mk d0 d1 k d) : Still P G x o k d := H x o y z ho hy hz rfl

theorem ld_blk {t k b o' : Nat} {B : Blk} {d : D} (hk : S[k]? = some B) (hb : B.b = b) (ha : ∀ w, (isAgg t).run P w = .ok false w) (hd : B.cs[o']? = some d) (hne : isMap B.e = false := by rfl) : R1 P G S (Op.load t) (.v (.pointer (some ⟨b, o', none⟩))) (.blk k) d := fun x o y ho hy hS => still_load (hne := hne) ho hy (hS ▸ hk) hb ha hd
theorem ld_blks {t k b o' n : Nat} {B : Blk} {ds : List D} (hk : S[k]? = some B) (hb : B.b = b) (ha : ∀ w, (isAgg t).run P w = .ok true w) (hn : ∀ w, (sizeOf t).run P w = .ok n w) (hl : ds.length = n) (hd : (B.cs.drop o').take n = ds) (hne : isMap B.e = false := by rfl) : R1 P G S (Op.load t) (.v (.pointer (some ⟨b, o', none⟩))) (.blk k) (.agg ds) := fun x o y ho hy hS => still_loads (hne := hne) ho hy (hS ▸ hk) hb ha hn hl hd
theorem ld_i {t o' : Nat} {cs : List D} {d : D} (ha : ∀ w, (isAgg t).run P w = .ok false w) (hd : cs[o']? = some d) : R1 P G S (Op.load t) (.iptr cs o') .imm d := fun x o y ho hy _ => still_iload ho hy ha hd
theorem ld_fm0 {α : Type} {g : α → List D} {t sz i : Nat} {ls : List α} {d : D} (hg : ∀ a, (g a).length = sz) (ha : ∀ w, (isAgg t).run P w = .ok false w) (hi : i < ls.length) (hd : (g ls[i])[0]? = some d) : R1 P G S (Op.load t) (.iptr (ls.flatMap g) (i * sz)) .imm d := ld_i ha (fm_cell0 hg hi hd)
/-- An element of a row of one's own. -/
theorem ld_row {α : Type} {g : α → List D} {t k b sz i j : Nat} {B : Blk} {ls : List α} {d : D} (hg : ∀ a, (g a).length = sz) (hk : S[k]? = some B) (hb : B.b = b) (hcs : B.cs = ls.flatMap g) (ha : ∀ w, (isAgg t).run P w = .ok false w) (hi : i < ls.length) (hd : (g ls[i])[j]? = some d) (hne : isMap B.e = false := by rfl) : R1 P G S (Op.load t) (.v (.pointer (some ⟨b, 0 + i * sz + j, none⟩))) (.blk k) d :=
  ld_blk (hne := hne) hk hb ha (by rw [hcs, Nat.zero_add]; exact fm_cell hg hi hd)
theorem ld_row0 {α : Type} {g : α → List D} {t k b sz i : Nat} {B : Blk} {ls : List α} {d : D} (hg : ∀ a, (g a).length = sz) (hk : S[k]? = some B) (hb : B.b = b) (hcs : B.cs = ls.flatMap g) (ha : ∀ w, (isAgg t).run P w = .ok false w) (hi : i < ls.length) (hd : (g ls[i])[0]? = some d) (hne : isMap B.e = false := by rfl) : R1 P G S (Op.load t) (.v (.pointer (some ⟨b, 0 + i * sz, none⟩))) (.blk k) d :=
 ld_blk (hne := hne) hk hb ha (by rw [hcs, Nat.zero_add]; exact fm_cell0 hg hi hd)
theorem ld_rows {α : Type} {g : α → List D} {t k b sz i : Nat} {B : Blk} {ls : List α} (hg : ∀ a, (g a).length = sz) (hk : S[k]? = some B) (hb : B.b = b) (hcs : B.cs = ls.flatMap g) (ha : ∀ w, (isAgg t).run P w = .ok true w) (hn : ∀ w, (sizeOf t).run P w = .ok sz w) (hi : i < ls.length) (hne : isMap B.e = false := by rfl) : R1 P G S (Op.load t) (.v (.pointer (some ⟨b, 0 + i * sz, none⟩))) (.blk k) (.agg (g ls[i])) :=
 ld_blks (hne := hne) hk hb ha hn (hg _) (by rw [hcs, Nat.zero_add]; exact fm_el hg hi)

theorem ix_list {t e : TypeId} {len sz j : Nat} {cs : List D} {k : IntKind} {i : Int} (hu : ∀ w, (underlying t).run P w = .ok (.slice e) w) (hs : ∀ w, (sizeOf e).run P w = .ok sz w) (hi : i = j) (hj : j < len) : R2 P G S (Op.indexAddr t) (.list sz cs len) (.v (.int k i)) .none (.iptr cs (j * sz)) := fun x o y z ho hy hz _ => still_idx ho hy hz hu hs hi hj
theorem ix_row {t e : TypeId} {b o' len cap sz j : Nat} {k : IntKind} {i : Int} (hu : ∀ w, (underlying t).run P w = .ok (.slice e) w) (hs : ∀ w, (sizeOf e).run P w = .ok sz w) (hi : i = j) (hj : j < len) : R2 P G S (Op.indexAddr t) (.v (.slice (some ⟨b, o', none⟩) len cap)) (.v (.int k i)) .none (.v (.pointer (some ⟨b, o' + j * sz, none⟩))) := fun x o y z ho hy hz _ => still_ridx ho hy hz hu hs hi hj
/-- The bounds of a slice expression, once they are read. -/
def Bd (x : St) (y : Option Operand) (n : Nat) : Prop := match y with | some y => ∃ (k : IntKind), opd x y = .v (.int k n) | none => True
def Rs (P : Program) (G : List (Nat × List Value)) (t : TypeId) (lo hi : Option Operand) (l h : Nat) (d0 : D) (d : D) : Prop := ∀ x o y, o.op = .slice t y lo hi none → opd x y = d0 → Bd x lo l → Bd x hi h → Still P G x o .none d
theorem still_rs {t : TypeId} {lo hi : Option Operand} {l h : Nat} {y : Operand} {d0 d : D} (ho : o.op = .slice t y lo hi none) (hy : opd x y = d0) (hl : Bd x lo l) (hh : Bd x hi h) (H : Rs P G t lo hi l h d0 d) : Still P G x o .none d := H x o y ho hy hl hh
theorem bound_of {y : Option Operand} {n df : Nat} (h : Bd x y n) (hd : y = none → n = df) : bound x y n df := by
 cases y with
 | none => exact hd rfl
 | some y => obtain ⟨k, hk⟩ := h; exact ⟨k, _, hk, rfl⟩
theorem sl_head {α : Type} {g : α → List D} {t e : TypeId} {sz h' : Nat} {lo hi : Option Operand} (hg : ∀ a, (g a).length = sz) {ls : List α} (hhi : hi = none → h' = ls.length)
  (hu : ∀ w, (underlying t).run P w = .ok (.slice e) w) (hs : ∀ w, (sizeOf e).run P w = .ok sz w) (h2 : h' ≤ ls.length) : Rs P G t lo hi 0 h' (.list sz (ls.flatMap g) ls.length) (.list sz ((ls.take h').flatMap g) (ls.take h').length) := fun x o y ho hy hl hh =>
 still_fhead hg ho hy (bound_of hl fun _ => rfl) (bound_of hh hhi) hu hs h2
theorem sl_tail {α : Type} {g : α → List D} {t e : TypeId} {sz l' : Nat} {lo : Option Operand} {ls : List α} {h' : Nat} (hh' : h' = ls.length) (hg : ∀ a, (g a).length = sz) (hlo : lo = none → l' = 0)
  (hu : ∀ w, (underlying t).run P w = .ok (.slice e) w) (hs : ∀ w, (sizeOf e).run P w = .ok sz w) (h2 : l' ≤ ls.length) : Rs P G t lo none l' h' (.list sz (ls.flatMap g) ls.length) (.list sz ((ls.drop l').flatMap g) (ls.drop l').length) := fun x o y ho hy hl hh => by
 subst hh'
 exact still_ftail hg ho hy (bound_of hl hlo) rfl hu hs h2
theorem sl_list {t e : TypeId} {sz l' h' len : Nat} {cs : List D} {lo hi : Option Operand} (hlo : lo = none → l' = 0) (hhi : hi = none → h' = len)
  (hu : ∀ w, (underlying t).run P w = .ok (.slice e) w) (hs : ∀ w, (sizeOf e).run P w = .ok sz w) (h1 : l' ≤ h') (h2 : h' ≤ len) : Rs P G t lo hi l' h' (.list sz cs len) (.list sz ((cs.drop (l' * sz)).take ((h' - l') * sz)) (h' - l')) := fun x o y ho hy hl hh =>
 still_slice ho hy (bound_of hl hlo) (bound_of hh hhi) hu hs h1 h2
theorem sl_row {t e : TypeId} {sz h' b o' len cap : Nat} {lo hi : Option Operand} (hhi : hi = none → h' = len)
  (hu : ∀ w, (underlying t).run P w = .ok (.slice e) w) (hs : ∀ w, (sizeOf e).run P w = .ok sz w) (h2 : h' ≤ cap) : Rs P G t lo hi 0 h' (.v (.slice (some ⟨b, o', none⟩) len cap)) (.v (.slice (some ⟨b, o', none⟩) h' cap)) := fun x o y ho hy hl hh =>
 still_rslice ho hy (bound_of hl fun _ => rfl) (bound_of hh hhi) hu hs h2
/-- append of structs onto a list of one's own. -/
theorem OD.appendG {C : Ctx} {Q : Exit → St → Prop} {ops : Array Oper} {l : List Oper} {α : Type} {g : α → List D} {ls new : List α} {s y : Operand} {t e tt sz bytes cap : Nat} {ad : Option Addr} {z : Value} {Sq R : List Blk} (hg : ∀ a, (g a).length = sz) (hg1 : ∀ a, (g a).all one = true) (hw : Wants ops x o true) (ho : o.op = .call { callee := .builtin .append, args := #[s, y], argTypes := #[t, t] }) (hd : o.dst = some tt)
    (ht : P.underlying t = some (.slice e)) (hi : (P.info? e).map (fun i => (i.zero, i.size, i.bytes)) = some (some z, sz, bytes)) (hzs : z.cells.size = sz) (hsz : 0 < sz)
    (hs : opd x s = .v (.slice ad ls.length cap)) (ho' : OwnL e sz (ls.flatMap g) ls.length ad cap Sq) (hp : x.S.Perm (Sq ++ R))
    (hy : opd x y = .list sz (new.flatMap g) new.length) (hm : 0 < new.length) (h63 : ls.length + new.length ≤ maxLen) (hbytes : (ls.length + new.length) * bytes ≤ 140737488355328)
    (K : ∀ b' cap', (ls ++ new).length ≤ cap' → cap' ≤ maxLen → OD P C ops l ⟨x.n, (tt, .v (.slice (some ⟨b', 0, none⟩) (ls ++ new).length cap')) :: x.env, ⟨b', e, cap' * sz, (ls ++ new).flatMap g⟩ :: R⟩ Q) (hne : isMap e = false := by rfl) : OD P C ops (o :: l) x Q :=
  OD.appendOwn (hne := hne) hw ho hd ht hi hzs hsz hs ho' hp (fm_len hg ls) hy (fm_one hg1 new) hm h63 hbytes fun b' cap' h1 h2 => by
    have := K b' cap' (by rw [List.length_append]; exact h1) h2
    rw [List.length_append, List.flatMap_append] at this
    exact this

/-- Of a block no more is told than its head. -/
theorem Wk.shrink {n : Nat} {l : List (Nat × D)} {S : List Blk} {k : Nat} {B : Blk} {cs' : List D} (hk : S[k]? = some B) (hp : cs' <+: B.cs) : Wk ⟨n, l, S⟩ ⟨n, l, S.set k { B with cs := cs' }⟩ := fun C a w h => by
  have hkl := (List.getElem?_eq_some_iff.1 hk).1
  have hkB := (List.getElem?_eq_some_iff.1 hk).2
  have hbks : bks (S.set k { B with cs := cs' }) = bks S := by
    unfold bks
    rw [List.map_set]
    apply List.ext_getElem (by simp)
    intro i q1 q2
    rw [List.getElem_set]
    split
    · rename_i e; subst e; simp [hkB]
    · rfl
  have hlive : live C.X (S.set k { B with cs := cs' }) = live C.X S := by funext b; simp only [live, hbks]
  refine ⟨h.defers, h.size, fun t ht => ?_, ⟨fun B' hB' => ?_, ?_⟩, ?_, h.ex, h.tab⟩
  · simp only [hlive]; exact h.env t ht
  · simp only [hlive]
    obtain ⟨j, hj, hje⟩ := List.mem_iff_getElem.1 hB'
    rw [List.length_set] at hj
    rw [List.getElem_set] at hje
    by_cases e : k = j
    · rw [if_pos e] at hje
      subst hje
      obtain ⟨r0, cur, r1, r2, r3, r4⟩ := h.own.at_ B (List.mem_of_getElem? hk)
      refine ⟨r0, cur, r1, r2, Nat.le_trans hp.length_le r3, fun i hi => ?_⟩
      obtain ⟨u, hu, hq⟩ := r4 i (Nat.lt_of_lt_of_le hi hp.length_le)
      refine ⟨u, hu, ?_⟩
      have : cs'[i] = B.cs[i]'(Nat.lt_of_lt_of_le hi hp.length_le) := List.IsPrefix.getElem hp hi
      simp only [this]
      exact hq
    · rw [if_neg e] at hje
      subst hje
      exact h.own.at_ _ (List.getElem_mem hj)
  · simp only [hbks]; exact h.own.apart
  · simp only [hbks]; exact h.fr

theorem OD.shrink {C : Ctx} {Q : Exit → St → Prop} {ops : Array Oper} {l : List Oper} {k : Nat} {B : Blk} {cs' : List D} (hk : x.S[k]? = some B) (hp : cs' <+: B.cs) (K : OD P C ops l ⟨x.n, x.env, x.S.set k { B with cs := cs' }⟩ Q) : OD P C ops l x Q := OD.wk (Wk.shrink hk hp) K

end Go.Proofs.Ythnobhekodiciaa.V

namespace Go.Proofs.Ythnobhekodiciaa.V
open Go.RowKit
set_option linter.unusedVariables false
set_option linter.unusedSimpArgs false

variable {P : Program} {C : Ctx} {G : List (Nat × List Value)} {Q : Exit → St → Prop} {x : St} {ops : Array Oper} {l : List Oper} {o : Oper} {n : Nat} {e : List (Nat × D)} {S : List Blk}

/-! ### Facts of types, told by the program itself -/
def szQ (P : Program) (t n : Nat) : Bool := match P.info? t with | some i => Nat.beq i.size n | none => false
theorem sz_of {t n : Nat} (h : szQ P t n = true) : ∀ w, (sizeOf t).run P w = .ok n w := by
 unfold szQ at h
 cases hi : P.info? t with
 | none => rw [hi] at h; cases h
 | some i =>
  rw [hi] at h
  intro w
  have := run_sizeOf (P := P) w hi
  rw [this]
  simp only [Program.cellsOf, hi, Option.map_some, Option.getD_some, Nat.eq_of_beq_eq_true h]
def agQ (P : Program) (t : Nat) (b : Bool) : Bool := match P.underlying t with
 | some (.struct _) => b
 | some (.array _ _) => b
 | some _ => !b
 | none => false
theorem ag_of {t : Nat} {b : Bool} (h : agQ P t b = true) : ∀ w, (isAgg t).run P w = .ok b w := by
 unfold agQ at h
 intro w
 cases hu : P.underlying t with
 | none => rw [hu] at h; cases h
 | some d =>
  rw [hu] at h
  have hr := run_underlying hu w
  unfold isAgg
  rw [Sem.run_bind, hr]
  cases d <;> simp only at h <;> first | (subst h; rfl) | (cases b; rfl; cases h)
def fdQ (P : Program) (s i off : Nat) : Bool := match P.underlying s with
 | some (.struct fs) => match fs[i]? with
  | some f => Nat.beq f.offset off && (match P.info? f.type with | some j => Nat.ble 1 j.size | none => false)
  | none => false
 | _ => false
theorem fd_of {s i off : Nat} (h : fdQ P s i off = true) : ∃ fs f m, (∀ w, (underlying s).run P w = .ok (.struct fs) w) ∧ fs[i]? = some f ∧ (∀ w, (sizeOf f.type).run P w = .ok (m + 1) w) ∧ f.offset = off := by
 unfold fdQ at h
 split at h
 ·rename_i fs hu
  split at h
  ·rename_i f hf
   rw [Bool.and_eq_true] at h
   obtain ⟨h1, h2⟩ := h
   split at h2
   ·rename_i j hj
    have hle := Nat.le_of_ble_eq_true h2
    refine ⟨fs, f, j.size - 1, run_underlying hu, hf, fun w => ?_, Nat.eq_of_beq_eq_true h1⟩
    have := run_sizeOf (P := P) w hj
    rw [this]
    simp only [Program.cellsOf, hj, Option.map_some, Option.getD_some]
    congr 1; omega
   ·cases h2
  ·cases h
 ·cases h
def slQ (P : Program) (t sz : Nat) : Bool := match P.underlying t with
 | some (.slice e) => szQ P e sz
 | _ => false
theorem sl_of {t sz : Nat} (h : slQ P t sz = true) : ∃ e, (∀ w, (underlying t).run P w = .ok (.slice e) w) ∧ ∀ w, (sizeOf e).run P w = .ok sz w := by
 unfold slQ at h
 split at h
 ·rename_i e hu; exact ⟨e, run_underlying hu, sz_of h⟩
 ·cases h
def isS (P : Program) (t : Nat) : Bool := match P.underlying t with
 | some (.slice _) => true
 | _ => false
theorem isS_of {t : Nat} (h : isS P t = true) : ∃ e, ∀ w, (underlying t).run P w = .ok (.slice e) w := by
 unfold isS at h
 split at h
 ·rename_i e hu; exact ⟨e, run_underlying hu⟩
 ·cases h

/-! ### Operations that change nothing -/
/-- moved, assigned -/
theorem mv_ {z : Operand} {d : D} (ho : o.op = .move z ∨ o.op = .assign z := by first | exact .inl rfl | exact .inr rfl) (hz : opd x z = d := by first | exact ot | exact opd_const | exact opd_func | exact opd_glob) : Still P G x o .none d := by
  rcases ho with h | h
  · exact still_mv h hz
  · exact still_as h hz
/-- A place, moved by some cells. -/
inductive FA (off : Nat) : D → D → Prop
  | p {b o' : Nat} : FA off (.v (.pointer (some ⟨b, o', none⟩))) (.v (.pointer (some ⟨b, o' + off, none⟩)))
  | i {cs : List D} {o' : Nat} : FA off (.iptr cs o') (.iptr cs (o' + off))
theorem fa_ (off : Nat) {s : TypeId} {y : Operand} {i : Nat} {d d' : D} (ho : o.op = .fieldAddr s y i := by exact rfl) (hy : opd x y = d := by first | exact ot | exact opd_glob) (hc : fdQ P s i off = true := by kernel_rfl) (h : FA off d d' := by first | exact .p | exact .i) : Still P G x o .none d' := by
 obtain ⟨fs, f, m, h1, h2, h3, h4⟩ := fd_of hc
 cases h with
 | p => exact still_field ho hy h1 h2 h3 h4
 | i => exact still_ifield ho hy h1 h2 h3 h4
theorem nc_ {y : Operand} {d : D} (ho : o.op = .nilCheck y := by exact rfl) (hy : opd x y = d := by exact ot) (h : FA 0 d d := by first | exact .p | exact .i) : Still P G x o .none d := by
 cases h with
 | p => exact still_nilCheck ho hy
 | i => exact still_nilCheckI ho hy
theorem ex_ {i : Nat} {cs : List D} {d : D} {y : Operand} (ho : o.op = .extract y i := by exact rfl) (hy : opd x y = .tup cs := by exact ot) (hd : cs[i]? = some d := by exact rfl) : Still P G x o .none d := still_extract ho hy hd
/-- What a load reads: a cell of an owned block; of a list's element; of memory that nobody writes. -/
inductive LD (S : List Blk) : D → Rd → D → Prop
  | b (k : Nat) {b o' : Nat} {B : Blk} {d : D} (hk : S[k]? = some B) (hb : B.b = b) (hd : B.cs[o']? = some d) (hne : isMap B.e = false) : LD S (.v (.pointer (some ⟨b, o', none⟩))) (.blk k) d
  | m {α : Type} {g : α → List D} {sz i j : Nat} {ls : List α} {d : D} (hg : ∀ a, (g a).length = sz) (hi : i < ls.length) (hd : (g ls[i])[j]? = some d) : LD S (.iptr (ls.flatMap g) (i * sz + j)) .imm d
  | m0 {α : Type} {g : α → List D} {sz i : Nat} {ls : List α} {d : D} (hg : ∀ a, (g a).length = sz) (hi : i < ls.length) (hd : (g ls[i])[0]? = some d) : LD S (.iptr (ls.flatMap g) (i * sz)) .imm d
  | r (k : Nat) {α : Type} {g : α → List D} {b sz i j : Nat} {B : Blk} {ls : List α} {d : D} (hg : ∀ a, (g a).length = sz) (hk : S[k]? = some B) (hb : B.b = b) (hcs : B.cs = ls.flatMap g) (hi : i < ls.length) (hd : (g ls[i])[j]? = some d) (hne : isMap B.e = false) : LD S (.v (.pointer (some ⟨b, 0 + i * sz + j, none⟩))) (.blk k) d
  | r0 (k : Nat) {α : Type} {g : α → List D} {b sz i : Nat} {B : Blk} {ls : List α} {d : D} (hg : ∀ a, (g a).length = sz) (hk : S[k]? = some B) (hb : B.b = b) (hcs : B.cs = ls.flatMap g) (hi : i < ls.length) (hd : (g ls[i])[0]? = some d) (hne : isMap B.e = false) : LD S (.v (.pointer (some ⟨b, 0 + i * sz, none⟩))) (.blk k) d
  | i {o' : Nat} {cs : List D} {d : D} (hd : cs[o']? = some d) : LD S (.iptr cs o') .imm d
theorem LD.still {t : TypeId} {y : Operand} {d0 d : D} {kd : Rd} (h : LD x.S d0 kd d) (ho : o.op = .load t y) (hy : opd x y = d0) (ha : ∀ w, (isAgg t).run P w = .ok false w) : Still P G x o kd d := by
 cases h with
 | b k hk hb hd hne => exact still_load (hne := hne) ho hy hk hb ha hd
 | m hg hi hd => exact still_iload ho hy ha (fm_cell hg hi hd)
 | m0 hg hi hd => exact still_iload ho hy ha (fm_cell0 hg hi hd)
 | r k hg hk hb hcs hi hd hne => exact ld_row (hne := hne) hg hk hb hcs ha hi hd x o y ho hy rfl
 | r0 k hg hk hb hcs hi hd hne => exact ld_row0 (hne := hne) hg hk hb hcs ha hi hd x o y ho hy rfl
 | i hd => exact still_iload ho hy ha hd
theorem ld_ {t : TypeId} {y : Operand} {d0 d : D} {kd : Rd} (ho : o.op = .load t y := by exact rfl) (hy : opd x y = d0 := by exact ot) (ha : agQ P t false = true := by kernel_rfl)
  (h : LD x.S d0 kd d := by first | exact .m (by exact fun _ => rfl) (by first | assumption | omega) rfl | exact .m0 (by exact fun _ => rfl) (by first | assumption | omega) rfl | exact .b 0 rfl rfl rfl rfl | exact .b 1 rfl rfl rfl rfl | exact .b 2 rfl rfl rfl rfl | exact .b 3 rfl rfl rfl rfl | exact .b 4 rfl rfl rfl rfl | exact .i rfl | exact .r 0 (by exact fun _ => rfl) rfl rfl rfl (by first | assumption | omega) rfl rfl | exact .r0 0 (by exact fun _ => rfl) rfl rfl rfl (by first | assumption | omega) rfl rfl | exact .r 1 (by exact fun _ => rfl) rfl rfl rfl (by first | assumption | omega) rfl rfl | exact .r0 1 (by exact fun _ => rfl) rfl rfl rfl (by first | assumption | omega) rfl rfl) : Still P G x o kd d := h.still ho hy (ag_of ha)
theorem lb_ (k : Nat) {t b o' : Nat} {B : Blk} {d : D} {y : Operand} (ho : o.op = .load t y := by exact rfl) (hy : opd x y = .v (.pointer (some ⟨b, o', none⟩)) := by exact ot) (hk : x.S[k]? = some B := by exact rfl) (hb : B.b = b := by exact rfl) (ha : agQ P t false = true := by kernel_rfl) (hd : B.cs[o']? = some d := by exact rfl) (hne : isMap B.e = false := by exact rfl) : Still P G x o (.blk k) d := still_load (hne := hne) ho hy hk hb (ag_of ha) hd
/-- A load of some cells at once. -/
inductive LA (S : List Blk) : List D → D → Rd → List D → Prop
  | b (k : Nat) {b o' : Nat} {B : Blk} {ds : List D} (hk : S[k]? = some B) (hb : B.b = b) (hd : (B.cs.drop o').take ds.length = ds) (hne : isMap B.e = false) : LA S ds (.v (.pointer (some ⟨b, o', none⟩))) (.blk k) ds
  | m {α : Type} {g : α → List D} {sz i : Nat} {ls : List α} {ds : List D} (hg : ∀ a, (g a).length = sz) (hi : i < ls.length) (hd : g ls[i] = ds) : LA S ds (.iptr (ls.flatMap g) (i * sz)) .imm (g ls[i])
  | r (k : Nat) {α : Type} {g : α → List D} {b sz i : Nat} {B : Blk} {ls : List α} {ds : List D} (hg : ∀ a, (g a).length = sz) (hk : S[k]? = some B) (hb : B.b = b) (hcs : B.cs = ls.flatMap g) (hi : i < ls.length) (hd : g ls[i] = ds) (hne : isMap B.e = false) : LA S ds (.v (.pointer (some ⟨b, 0 + i * sz, none⟩))) (.blk k) (g ls[i])
  | i {o' : Nat} {cs ds : List D} (hd : (cs.drop o').take ds.length = ds) : LA S ds (.iptr cs o') .imm ds
theorem la_ (ds : List D) {t : TypeId} {y : Operand} {d0 : D} {es : List D} {kd : Rd} (ho : o.op = .load t y := by exact rfl) (hy : opd x y = d0 := by exact ot) (ha : agQ P t true = true := by kernel_rfl)
  (h : LA x.S ds d0 kd es := by first | exact .m (by exact fun _ => rfl) (by first | assumption | omega) rfl | exact .b 0 rfl rfl rfl rfl | exact .b 1 rfl rfl rfl rfl | exact .b 2 rfl rfl rfl rfl | exact .b 3 rfl rfl rfl rfl | exact .b 4 rfl rfl rfl rfl | exact .i rfl | exact .r 0 (by exact fun _ => rfl) rfl rfl rfl (by first | assumption | omega) rfl rfl | exact .r 1 (by exact fun _ => rfl) rfl rfl rfl (by first | assumption | omega) rfl rfl | exact .r 2 (by exact fun _ => rfl) rfl rfl rfl (by first | assumption | omega) rfl rfl) (hn : szQ P t ds.length = true := by kernel_rfl) : Still P G x o kd (.agg es) := by
 have hn' := sz_of hn
 cases h with
 | b k hk hb hd hne => exact still_loads (hne := hne) ho hy hk hb (ag_of ha) hn' rfl hd
 | m hg hi hd => exact still_iloads ho hy (ag_of ha) (by rw [← hd, hg] at hn'; exact hn') (hg _) (fm_el hg hi)
 | r k hg hk hb hcs hi hd hne => exact ld_rows (hne := hne) hg hk hb hcs (ag_of ha) (by rw [← hd, hg] at hn'; exact hn') hi x o y ho hy rfl
 | i hd => exact still_iloads ho hy (ag_of ha) hn' rfl hd
theorem lab_ (k : Nat) (ds : List D) {t b o' : Nat} {B : Blk} {y : Operand} (ho : o.op = .load t y := by exact rfl) (hy : opd x y = .v (.pointer (some ⟨b, o', none⟩)) := by exact ot) (ha : agQ P t true = true := by kernel_rfl) (hk : x.S[k]? = some B := by exact rfl) (hb : B.b = b := by exact rfl) (hd : (B.cs.drop o').take ds.length = ds := by exact rfl) (hne : isMap B.e = false := by exact rfl) (hn : szQ P t ds.length = true := by kernel_rfl) : Still P G x o (.blk k) (.agg ds) := still_loads (hne := hne) ho hy hk hb (ag_of ha) (sz_of hn) rfl hd
/-- A place in a list, in a row of one's own. -/
inductive IX (sz : Nat) (i : Int) : D → D → Prop
  | l {cs : List D} {len j : Nat} (hi : i = j) (hj : j < len) : IX sz i (.list sz cs len) (.iptr cs (j * sz))
  | r {b o' len cap j : Nat} (hi : i = j) (hj : j < len) : IX sz i (.v (.slice (some ⟨b, o', none⟩) len cap)) (.v (.pointer (some ⟨b, o' + j * sz, none⟩)))
theorem ix_ (sz : Nat) {t : TypeId} {y z : Operand} {k : IntKind} {i : Int} {d d' : D} (ho : o.op = .indexAddr t y z := by exact rfl) (hy : opd x y = d := by exact ot) (hz : opd x z = .v (.int k i) := by first | exact ot | exact opd_const) (hs : slQ P t sz = true := by kernel_rfl)
  (h : IX sz i d d' := by first | exact .l rfl (by first | assumption | omega) | exact .r rfl (by first | assumption | omega) | exact .l (Int.toNat_of_nonneg (by omega)).symm (by omega) | exact .r (Int.toNat_of_nonneg (by omega)).symm (by omega)) : Still P G x o .none d' := by
 obtain ⟨e, h1, h2⟩ := sl_of hs
 cases h with
 | l hi hj => exact still_idx ho hy hz h1 h2 hi hj
 | r hi hj => exact still_ridx ho hy hz h1 h2 hi hj
theorem ln_ {t : TypeId} {y : Operand} {d : D} {m : Nat} {ts : Array TypeId} (ho : o.op = .call { callee := .builtin .len, args := #[y], argTypes := ts } := by exact rfl) (ht : ts = #[t] := by exact rfl) (hy : opd x y = d := by exact ot) (hs : isS P t = true := by kernel_rfl) (h : (∃ sz cs, d = .list sz cs m) ∨ ∃ ad cap, d = .v (.slice ad m cap) := by first | exact .inl ⟨_, _, rfl⟩ | exact .inr ⟨_, _, rfl⟩) : Still P G x o .none (.v (.int .i64 m)) := by
 obtain ⟨e, he⟩ := isS_of hs
 rcases h with ⟨sz, cs, rfl⟩ | ⟨ad, cap, rfl⟩
 ·exact still_len ho ht hy he
 ·exact still_rlen ho ht hy he
theorem bn_ {op : BinOp} {t t' : TypeId} {y z : Operand} {u u' r : Value} (ho : o.op = .binOp op t y z t' := by exact rfl) (hy : opd x y = .v u := by first | exact ot | exact opd_const) (hz : opd x z = .v u' := by first | exact ot | exact opd_const)
  (hb : BinOK P op t u u' r := by first | exact bin_eql | exact bin_lss | exact bin_add (wrap_i64 (by omega) (by omega)) | exact bin_sub (wrap_i64 (by omega) (by omega)) | exact bin_neq | exact bin_gtr | exact bin_leq | exact bin_geq | exact bin_mul (wrap_i64 (by omega) (by omega)) | exact bin_seql | exact bin_sneq | exact bin_slss | exact bin_sleq | exact bin_sgtr | exact bin_sgeq | exact bin_cat (by omega)) : Still P G x o .none (.v r) := still_bin ho hy hz hb
theorem un_ {t : TypeId} {y : Operand} {b : Bool} (ho : o.op = .unOp .not t y := by exact rfl) (hy : opd x y = .v (.bool b) := by exact ot) : Still P G x o .none (.v (.bool !b)) := still_un ho hy un_not
theorem pkT_ {c y z : Operand} {b : Bool} {d : D} (ho : o.op = .pick c y z := by exact rfl) (hc : opd x c = .v (.bool b) := by exact ot) (h : b = true := by first | rfl | assumption) (hd : opd x y = d := by first | exact ot | exact opd_const) : Still P G x o .none d := still_pickT ho hc h hd
theorem pkF_ {c y z : Operand} {b : Bool} {d : D} (ho : o.op = .pick c y z := by exact rfl) (hc : opd x c = .v (.bool b) := by exact ot) (h : b = false := by first | rfl | assumption) (hd : opd x z = d := by first | exact ot | exact opd_const) : Still P G x o .none d := still_pickF ho hc h hd

/-! ### Steps -/
/-- An operation that changes nothing. -/
theorem os_ {t : Nat} {d : D} {kd : Rd} (h : Still P C.G ⟨n, e, S⟩ o kd d) (K : OD P C ops l ⟨n, (t, d) :: e, S⟩ Q) (hw : Wants ops ⟨n, e, S⟩ o true := by first | exact wants_plain rfl | exact wants_T rfl rfl rfl lk (by first | rfl | assumption)) (hd : o.dst = some t := by exact rfl) : OD P C ops (o :: l) ⟨n, e, S⟩ Q := OD.still hw hd h K
/-- An operation that is not wanted. -/
theorem sk_ {t : Nat} (K : OD P C ops l ⟨n, (t, .v (.tuple #[])) :: e, S⟩ Q) (hw : Wants ops ⟨n, e, S⟩ o false := by exact wants_F rfl rfl rfl lk (by first | rfl | assumption)) (hd : o.dst = some t := by exact rfl) : OD P C ops (o :: l) ⟨n, e, S⟩ Q := OD.skip hw hd K
theorem sj_ {t : Nat} (K : OD P C ops l ⟨n, (t, .v (.tuple #[])) :: e, S⟩ Q) (hw : Wants ops ⟨n, e, S⟩ o false := by exact wants_J (b := false) rfl rfl rfl lk) (hd : o.dst = some t := by exact rfl) : OD P C ops (o :: l) ⟨n, e, S⟩ Q := OD.skip hw hd K
/-- What some slots hold. -/
inductive Restr : List Nat → List (Nat × D) → List (Nat × D) → Prop
  | nil {e : List (Nat × D)} : Restr [] e []
  | cons {t : Nat} {ts : List Nat} {d : D} {e l' : List (Nat × D)} (h : look t e = d) (k : Restr ts e l') : Restr (t :: ts) e ((t, d) :: l')
theorem Restr.slots {ts : List Nat} {e l' : List (Nat × D)} (h : Restr ts e l') : Slots e l' := by
 induction h with
 | nil => trivial
 | cons h _ ih => exact ⟨h, ih⟩
/-- A region's end: these slots are looked at later. -/
theorem nm_ (ts : List Nat) {l' : List (Nat × D)} (K : Q .normal ⟨n, l', S⟩) (h : Restr ts e l' := by repeat (first | exact Restr.nil | (apply Restr.cons; focus exact lk))) : OD P C ops [] ⟨n, e, S⟩ Q := OD.wk (Wk.as_ rfl rfl h.slots) (OD.nil K)
/-- A block is another one now. -/
inductive SetAt : List Blk → Nat → Blk → List Blk → Prop
  | z {B B' : Blk} {S : List Blk} : SetAt (B :: S) 0 B' (B' :: S)
  | s {A B' : Blk} {S S' : List Blk} {k : Nat} (h : SetAt S k B' S') : SetAt (A :: S) (k + 1) B' (A :: S')
/-- The end of a function that returns what slots hold, and keeps no block. -/
theorem r1_ {fn : Func} {post : D → List Blk → Prop} {ex : Exit} {t : Nat} {d : D} (hp : post d []) (he : ex = .normal ∨ ex = .ret := by first | exact .inr rfl | exact .inl rfl) (hr : fn.results = #[.tmp t] := by exact rfl) (ht : Nat.blt t n = true := by exact rfl) (hd : look t e = d := by exact lk) : Body P fn post ex ⟨n, e, S⟩ :=
  ⟨he, d, [], List.nil_sublist _, ret_one hr (res_tmp (Nat.le_of_ble_eq_true ht) hd), hp⟩
theorem r2_ {fn : Func} {post : D → List Blk → Prop} {ex : Exit} {t t' : Nat} {d d' : D} (hp : post (.tup [d, d']) []) (he : ex = .normal ∨ ex = .ret := by first | exact .inr rfl | exact .inl rfl) (hr : fn.results = #[.tmp t, .tmp t'] := by exact rfl) (ht : Nat.blt t n = true := by exact rfl) (ht' : Nat.blt t' n = true := by exact rfl) (hd : look t e = d := by exact lk) (hd' : look t' e = d' := by exact lk) : Body P fn post ex ⟨n, e, S⟩ :=
 ⟨he, _, [], List.nil_sublist _, ret_two hr (res_tmp (Nat.le_of_ble_eq_true ht) hd) (res_tmp (Nat.le_of_ble_eq_true ht') hd'), hp⟩
theorem sr_ {id : Nat} {r : List Oper} {d : Code} (h : OD P C r.toArray r x (Then P C d Q)) : CD P C (.seq (.region id r.toArray false) d) x Q := CD.seq (CD.region h)
end Go.Proofs.Ythnobhekodiciaa.V

namespace Go.Proofs.Ythnobhekodiciaa.Tab
open Go.RowKit Go.ChangeShapes

variable {H : Type} {enc : TypeId × Value → H} {P : Program} {w : World} {base : Nat} {sp : Nat → Bool} {held : Bool}

/-- A row of cells lies at the head of a block. -/
def TabAt (w : World) (g : Nat) (l : List Value) : Prop := ∀ i v, l[i]? = some v → w.cell? ⟨g, i, none⟩ = some v

theorem TabAt.on {w w' : World} {g : Nat} {l : List Value} (h : TabAt w g l) (hb : Below w.heap.size w w') : TabAt w' g l :=
 fun i v hi => (hb.cell (World.block_lt_of_cell? w _ (h i v hi))).trans (h i v hi)

end Go.Proofs.Ythnobhekodiciaa.Tab

namespace Go.Proofs.Ythnobhekodiciaa.V
open Go.RowKit
set_option linter.unusedVariables false

/-- What a table's list says of a world. -/
def TabX (w : World) (g : Nat) (l : List Value) : Prop := ∀ i v, l[i]? = some v → tabCell w g i v
theorem TabX.of {w : World} {g : Nat} {l : List Value} (h : Tab.TabAt w g l) (hp : l.all plainV = true) : TabX w g l := fun i v hi => .of (h i v hi) (plain_at hp hi)
theorem VP.run {P : Program} {G : List (Nat × List Value)} {f : FuncId} {args : List D} {vs : List Value} {r : Value} {w : World} (h : VP P G f args (.v r))
  (hG : ∀ g ∈ G, g.2 ≠ [] ∧ TabX w g.1 g.2) (hr : RepL w (live (fun _ => False) []) args vs) : Calls P f vs.toArray w fun e w' => e = .returned r ∧ Below w.heap.size w w' := by
 have hp : Pre G (fun _ => False) w [] args vs := by
  refine ⟨fun _ h => h.elim, fun g hg => ⟨⟨?_, by simp [bks], fun h => h⟩, (hG g hg).2⟩, ⟨fun B hB => by simp at hB, by simp [bks]⟩, hr⟩
  obtain ⟨h1, h2⟩ := hG g hg
  cases hl : g.2 with
  | nil => exact absurd hl h1
  | cons v l => exact (h2 0 v (by rw [hl]; rfl)).lt
 refine (h _ w vs hp).mono fun e w' ⟨v, r', S', h1, ⟨h2, h3⟩, h4, h5, h6⟩ => ?_
 subst h2
 rw [h5.v_eq] at h1
 exact ⟨h1, h6.os, h6.tape, h6.output, h6.size, fun k hk => (h6.block k hk (by simp [bks])).1⟩

theorem RepL.vs (w : World) (L : Nat → Prop) (vs : List Value) : RepL w L (vs.map .v) vs := ⟨by simp, fun i h1 h2 => by rw [List.getElem_map]; exact .v _⟩
theorem wf_bd {a : Int} (h : (Lit.int .i64 a).wf = true) : -9223372036854775808 ≤ a ∧ a ≤ 9223372036854775807 := bounds_i64 h
end Go.Proofs.Ythnobhekodiciaa.V

namespace Go.Proofs.Ythnobhekodiciaa.V
open Go.RowKit
set_option linter.unusedVariables false

variable {H : Type} {enc : TypeId × Value → H} {P : Program} {w : World} {base : Nat} {sp : Nat → Bool} {held : Bool}

/-- Cells that read by the type are those of some a, of which 'ok' holds. -/
def Rds (enc : TypeId × Value → H) (P : Program) (w : World) (base : Nat) (sp : Nat → Bool) (held : Bool) (t : TypeId) {α : Type} (g : α → List D) (ok : α → Prop) : Prop :=
  ∀ fuel cs x, DataW.trod enc P w base sp held fuel t cs = some x → ∃ a, RepL w (fun _ => False) (g a) cs ∧ ok a

theorem rd_int {t : TypeId} (ht : P.underlying t = some (.int .i64)) : Rds enc P w base sp held t (fun n : Int => [.v (.int .i64 n)]) (fun n => -9223372036854775808 ≤ n ∧ n ≤ 9223372036854775807) := fun fuel cs x h => by
 obtain ⟨n, rfl, _, hw⟩ := DataW.trod_int ht h
 exact ⟨n, RepL.vs w _ [_], wf_bd hw⟩
theorem Rds.map {t : TypeId} {α β : Type} {g : α → List D} {ok : α → Prop} {g' : β → List D} {ok' : β → Prop} (h : Rds enc P w base sp held t g ok) (f : α → β) (hg : ∀ a, g' (f a) = g a) (hok : ∀ a, ok a → ok' (f a)) : Rds enc P w base sp held t g' ok' := fun fuel cs x hx => by
 obtain ⟨a, h1, h2⟩ := h fuel cs x hx
 exact ⟨f a, by rw [hg]; exact h1, hok a h2⟩

/-- A slice, as an argument. -/
theorem rd_slice {t e : TypeId} {sz b' : Nat} {α : Type} {g : α → List D} {ok : α → Prop} (ht : P.underlying t = some (.slice e)) (hce : P.cellsOf e = sz) (hsz : 0 < sz) (re : Rds enc P w base sp held e g ok) (hg : ∀ a, (g a).length = sz) {v : Value} {d : DataW H} {p : List MemPlace}
    (hval : Value.okWide P w .any b' t v) (h : DataW.Trod enc P w base sp held t v d p) : ∃ l : List α, Rep w (fun _ => False) (.list sz (l.flatMap g) l.length) v ∧ (∀ x ∈ l, ok x) ∧ l.length ≤ maxLen := by
  have hv : Cell.okWide P w .any b' t v := by unfold Value.okWide at hval; rw [ht] at hval; exact hval
  unfold Cell.okWide at hv
  rw [ht] at hv
  obtain ⟨m, hm⟩ := h
  have hv2 : Cell.ok P w .any b' t v := by revert hv; cases v <;> exact id
  unfold Cell.ok at hv2
  rw [ht] at hv2
  cases v with
  | slice ad len cap =>
    rcases Go.Deep.open_slice ht hm with ⟨h1, _⟩ | ⟨a, len', cap', mm, n, Dd, Pl, h1, hb, hl, hmx, hmm, _, hx⟩
    · have e1 : Value.slice ad len cap = .slice none 0 0 := by simpa [Value.cells] using h1
      rw [e1]
      exact ⟨[], .nil sz, (fun x hx => by cases hx), Nat.zero_le _⟩
    · have e1 : Value.slice ad len cap = .slice (some a) len' cap' := by simpa [Value.cells] using h1
      cases e1
      have hhas : w.has P .any b' a e cap := hv2.2.2
      obtain ⟨_, hspot, row, cells, hsh, _⟩ := hhas
      obtain ⟨b, o, s⟩ := a
      have hspot' : s = none := hspot
      subst hspot'
      have hlt : b < w.heap.size := by
        rcases Nat.lt_or_ge b w.heap.size with h2 | h2
        · exact h2
        · simp [World.shape?, Array.getElem?_eq_none h2] at hsh
      have hle : len ≤ mm := by rw [hmm]; split <;> omega
      have each : ∀ i : Fin len, ∃ a : α, (∃ cs', w.cells? base ((⟨b, o, none⟩ : Addr).add (i.1 * P.cellsOf e)) (P.cellsOf e) = some cs' ∧ RepL w (fun _ => False) (g a) cs') ∧ ok a := fun i => by
        obtain ⟨cs', h1, h2⟩ := hx i.1 (by omega)
        obtain ⟨a, h3, h4⟩ := re _ _ _ h2
        exact ⟨a, ⟨cs', h1, h3⟩, h4⟩
      let l : List α := List.ofFn fun i : Fin len => Classical.choose (each i)
      have hll : l.length = len := by simp [l]
      have hli : ∀ i (hi : i < l.length), (∃ cs', w.cells? base ((⟨b, o, none⟩ : Addr).add (i * P.cellsOf e)) (P.cellsOf e) = some cs' ∧ RepL w (fun _ => False) (g l[i]) cs') ∧ ok l[i] := fun i hi => by
        have := Classical.choose_spec (each ⟨i, by omega⟩)
        simpa [l] using this
      refine ⟨l, ?_, fun x hx => ?_, by omega⟩
      · have key : ∀ k, k < (l.flatMap g).length → ∃ u, w.cell? ⟨b, o + k, none⟩ = some u ∧ ∀ h : k < (l.flatMap g).length, Rep w (fun _ => False) (l.flatMap g)[k] u := fun k hk => by
          rw [fm_len hg] at hk
          have hi : k / sz < l.length := Nat.div_lt_of_lt_mul (by rw [Nat.mul_comm]; exact hk)
          have hj : k % sz < sz := Nat.mod_lt _ hsz
          have hkk : k / sz * sz + k % sz = k := by rw [Nat.mul_comm]; exact Nat.div_add_mod k sz
          obtain ⟨⟨cs', h1, h2⟩, _⟩ := hli _ hi
          obtain ⟨_, h4, h5⟩ := World.cells?_some h1
          have h6 := h5 (k % sz) (by omega)
          have hjl : k % sz < cs'.length := by omega
          rw [List.getElem?_eq_getElem hjl, Go.Deep.add_add, hce, hkk, Addr.add_mid] at h6
          refine ⟨_, h6, fun h => ?_⟩
          have h7 := h2.2 (k % sz) (by rw [hg]; exact hj) hjl
          have h8 := fm_cell hg hi (List.getElem?_eq_getElem (show k % sz < (g l[k / sz]).length by rw [hg]; exact hj))
          rw [hkk, List.getElem?_eq_getElem h] at h8
          rw [Option.some.inj h8]
          exact h7
        have hm2 : len ≤ cap := hl
        have hgoal : Value.slice (some ⟨b, o, none⟩) len cap = Value.slice (some ⟨b, o, none⟩) l.length cap := by rw [hll]
        rw [hgoal]
        refine Rep.list (L := fun _ => False) sz (l.flatMap g) l.length b o cap (fun k => (w.cell? ⟨b, o + k, none⟩).getD undef) (fm_len hg l) (by omega) hmx hlt (fun h => h.elim) (fun k hk => ?_) (fun k hk => ?_)
        · obtain ⟨u, h1, _⟩ := key k hk
          rw [h1]; rfl
        · obtain ⟨u, h1, h2⟩ := key k hk
          simp only [h1, Option.getD_some]
          exact h2 hk
      · obtain ⟨i, hi, rfl⟩ := List.mem_iff_getElem.1 hx
        exact (hli i hi).2
  | _ => exact hv2.elim

theorem VP.runL {G : List (Nat × List Value)} {f : FuncId} {args : List D} {vs : List Value} {r : Value} (h : VP P G f args (.v r))
  (hG : ∀ g ∈ G, g.2 ≠ [] ∧ TabX w g.1 g.2) (hr : RepL w (fun _ => False) args vs) : Calls P f vs.toArray w fun e w' => e = .returned r ∧ Below w.heap.size w w' :=
 h.run hG (hr.mono fun b _ _ => ⟨rfl, fun hl => by rcases hl with hl | hl; exact hl; simp [bks] at hl⟩)

end Go.Proofs.Ythnobhekodiciaa.V

namespace Go.Proofs.Ythnobhekodiciaa.V
open Go.RowKit
set_option linter.unusedVariables false
set_option linter.unusedSimpArgs false

variable {P : Program} {C : Ctx} {G : List (Nat × List Value)} {Q : Exit → St → Prop} {x : St} {ops : Array Oper} {l : List Oper} {o : Oper} {S1 T : List Nat} {fuel i : Nat} {ld : Array Bool}

theorem setAll_eq : ∀ (ds cs : List D) (off : Nat), off + ds.length ≤ cs.length → setAll cs off ds = cs.take off ++ ds ++ cs.drop (off + ds.length)
 | [], cs, off, h => by simp [setAll]
 | d :: ds, cs, off, h => by
  simp only [List.length_cons] at h
  have e : cs.set off d = (cs.take off ++ [d]) ++ cs.drop (off + 1) := by rw [List.set_eq_take_append_cons_drop, if_pos (by omega)]; simp
  have hl : (cs.take off ++ [d]).length = off + 1 := by simp; omega
  rw [setAll, setAll_eq ds _ (off + 1) (by simp; omega), e, List.take_left' hl, ← List.drop_drop, List.drop_left' hl, List.drop_drop]
  simp only [List.append_assoc, List.cons_append, List.nil_append, List.length_cons]
  congr 4
  omega

theorem fm_set {α : Type} {g : α → List D} {sz : Nat} (hg : ∀ a, (g a).length = sz) (ls : List α) {i : Nat} (a : α) (hi : i < ls.length) : setAll (ls.flatMap g) (i * sz) (g a) = (ls.set i a).flatMap g := by
 have h1 : (i + 1) * sz ≤ ls.length * sz := Nat.mul_le_mul_right _ hi
 rw [Nat.succ_mul] at h1
 rw [setAll_eq _ _ _ (by rw [fm_len hg, hg]; exact h1), hg, List.set_eq_take_append_cons_drop, if_pos hi, fm_take hg, ← Nat.succ_mul, fm_drop hg]
 simp [List.flatMap_append]

/-- What is known of a block's cells may be less, or nothing. -/
theorem Wk.recs {n : Nat} {l : List (Nat × D)} {S : List Blk} {k : Nat} {B : Blk} {cs' : List D} (hk : S[k]? = some B) (hl : cs'.length ≤ B.size) (hc : ∀ (i : Nat) (d : D), cs'[i]? = some d → B.cs[i]? = some d ∨ d = D.junk) : Wk ⟨n, l, S⟩ ⟨n, l, S.set k { B with cs := cs' }⟩ := fun C a w h => by
  have hkl := (List.getElem?_eq_some_iff.1 hk).1
  have hkB := (List.getElem?_eq_some_iff.1 hk).2
  have hbks : bks (S.set k { B with cs := cs' }) = bks S := by
    unfold bks
    rw [List.map_set]
    apply List.ext_getElem (by simp)
    intro i q1 q2
    rw [List.getElem_set]
    split
    · rename_i e; subst e; simp [hkB]
    · rfl
  have hlive : live C.X (S.set k { B with cs := cs' }) = live C.X S := by funext b; simp only [live, hbks]
  refine ⟨h.defers, h.size, fun t ht => ?_, ⟨fun B' hB' => ?_, ?_⟩, ?_, h.ex, h.tab⟩
  · simp only [hlive]; exact h.env t ht
  · simp only [hlive]
    obtain ⟨j, hj, hje⟩ := List.mem_iff_getElem.1 hB'
    rw [List.length_set] at hj
    rw [List.getElem_set] at hje
    by_cases e : k = j
    · rw [if_pos e] at hje
      subst hje
      obtain ⟨r0, cur, r1, r2, r3, r4⟩ := h.own.at_ B (List.mem_of_getElem? hk)
      refine ⟨r0, cur, r1, r2, hl, fun i hi => ?_⟩
      simp only at hi hl
      have hi2 : i < cur.size := by omega
      rcases hc i _ (List.getElem?_eq_getElem hi) with hd | hd
      · obtain ⟨hd1, hd2⟩ := List.getElem?_eq_some_iff.1 hd
        obtain ⟨u, hu, hq⟩ := r4 i hd1
        rw [hd2] at hq
        exact ⟨u, hu, hq⟩
      · exact ⟨cur[i], by simp [hi2], by simp only [hd]; exact .junk _⟩
    · rw [if_neg e] at hje
      subst hje
      exact h.own.at_ _ (List.getElem_mem hj)
  · simp only [hbks]; exact h.own.apart
  · simp only [hbks]; exact h.fr

theorem OD.recs {k : Nat} {B : Blk} {cs' : List D} (hk : x.S[k]? = some B) (hl : cs'.length ≤ B.size) (hc : ∀ (i : Nat) (d : D), cs'[i]? = some d → B.cs[i]? = some d ∨ d = D.junk) (K : OD P C ops l ⟨x.n, x.env, x.S.set k { B with cs := cs' }⟩ Q) : OD P C ops l x Q := OD.wk (Wk.recs hk hl hc) K

/-! ### A slice of a row of one's own -/

/-- Where a slice expression's row begins. -/
def offs (cap l sz o' : Nat) : Nat := if cap = l then o' else o' + l * sz

theorem still_rsliceG {t e : TypeId} {b o' len cap sz l h' : Nat} {y : Operand} {lo hi : Option Operand} (ho : o.op = .slice t y lo hi none) (hy : opd x y = .v (.slice (some ⟨b, o', none⟩) len cap)) (hlo : bound x lo l 0) (hhi : bound x hi h' len)
  (hu : ∀ w, (underlying t).run P w = .ok (.slice e) w) (hs : ∀ w, (sizeOf e).run P w = .ok sz w) (h1 : l ≤ h') (h2 : h' ≤ cap) : Still P G x o .none (.v (.slice (some ⟨b, offs cap l sz o', none⟩) (h' - l) (cap - l))) := fun C a w _ h =>
 ⟨_, .v _, fun w' _ => by
  have b1 := bound_eval h hlo
  have b2 := bound_eval h hhi
  have b3 := fun w => run_sbounds (P := P) (il := true) (w := w) b1 b2 h1 h2
  unfold execOp offs
  simp only [ho, h.flat hy, Instr.sliceAt, Instr.slice, hu, Sem.run_bind, Result.andThen_ok, Option.map_none, b3, hs, Sem.run_pure]
  by_cases hc : cap = l
  ·rw [if_pos hc, if_pos hc]
  ·rw [if_neg hc, if_neg hc]; simp only [Option.map_some, Addr.add_mid]⟩

theorem sl_rowG {t e : TypeId} {sz l h' b o' len cap : Nat} {lo hi : Option Operand} (hlo : lo = none → l = 0) (hhi : hi = none → h' = len)
  (hu : ∀ w, (underlying t).run P w = .ok (.slice e) w) (hs : ∀ w, (sizeOf e).run P w = .ok sz w) (h1 : l ≤ h') (h2 : h' ≤ cap) : Rs P G t lo hi l h' (.v (.slice (some ⟨b, o', none⟩) len cap)) (.v (.slice (some ⟨b, offs cap l sz o', none⟩) (h' - l) (cap - l))) := fun x o y ho hy hl hh =>
 still_rsliceG ho hy (bound_of hl hlo) (bound_of hh hhi) hu hs h1 h2

theorem still_rslice3 {t e : TypeId} {b o' len cap sz l h' m : Nat} {k1 k2 k3 : IntKind} {y lo hi mx : Operand} (ho : o.op = .slice t y (some lo) (some hi) (some mx)) (hy : opd x y = .v (.slice (some ⟨b, o', none⟩) len cap)) (hlo : opd x lo = .v (.int k1 l)) (hhi : opd x hi = .v (.int k2 h')) (hmx : opd x mx = .v (.int k3 m))
  (hu : ∀ w, (underlying t).run P w = .ok (.slice e) w) (hs : ∀ w, (sizeOf e).run P w = .ok sz w) (h1 : l ≤ h') (h2 : h' ≤ m) (h3 : m ≤ cap) : Still P G x o .none .junk := fun C a w _ h =>
 ⟨.slice (some ⟨b, if m = l then o' else o' + l * sz, none⟩) (h' - l) (m - l), .junk _, fun w' _ => by
  have b3 : ∀ w, (Instr.sliceBounds true len cap (some (.int k1 l)) (some (.int k2 h')) (some (.int k3 m))).run P w = .ok (l, h', m) w := fun w => by
   unfold Instr.sliceBounds
   simp [run_sbound, h1, h2, h3]
  unfold execOp
  simp only [ho, h.flat hy, h.flat hlo, h.flat hhi, h.flat hmx, Instr.sliceAt, Instr.slice, hu, Sem.run_bind, Result.andThen_ok, Option.map_some, b3, hs, Sem.run_pure]
  by_cases hc : m = l
  ·rw [if_pos hc, if_pos hc]
  ·rw [if_neg hc, if_neg hc]; simp only [Option.map_some, Addr.add_mid]⟩

/-! ### append within a row -/

theorem eff_appendIn {s y : Operand} {t e tt sz n m b cap k oy c : Nat} {B : Blk} {new cs' : List D} (ho : o.op = .call { callee := .builtin .append, args := #[s, y], argTypes := #[t, t] }) (hd : o.dst = some tt)
  (ht : P.underlying t = some (.slice e)) (hi : (P.info? e).map (fun i => i.size) = some sz)
  (hs : opd x s = .v (.slice (some ⟨b, 0, none⟩) n cap)) (hk : x.S[k]? = some B) (hb : B.b = b) (hy : opd x y = .v (.slice (some ⟨b, oy, none⟩) m c))
  (hnew : (B.cs.drop oy).take (m * sz) = new) (hlen : new.length = m * sz) (hone : ∀ d ∈ new, one d = true) (hroom : n + m ≤ cap) (hl : n * sz + m * sz ≤ B.cs.length) (hcs : setAll B.cs (n * sz) new = cs') (hne : isMap B.e = false := by rfl) :
  Eff P G x o [b] (fun y => y = ⟨x.n, (tt, .v (.slice (some ⟨b, 0, none⟩) (n + m) cap)) :: x.env, x.S.set k { B with cs := cs' }⟩) := fun C a w K Q hG h hK => by
 subst hcs hb
 obtain ⟨i, hi1, rfl⟩ : ∃ i, P.info? e = some i ∧ i.size = sz := by
  cases h : P.info? e with
  | none => simp [h] at hi
  | some i => simp [h] at hi; exact ⟨i, rfl, hi⟩
 obtain ⟨h0, cur, q1, q2, q3, q4⟩ := h.blk hk
 rw [ob_cells hne] at q1
 have hin : ∀ j, j < m * i.size → ∃ hj : oy + j < B.cs.length, ∃ hn : j < new.length, new[j] = B.cs[oy + j] := fun j hj => by
  have h1 : j < new.length := by omega
  have h2 : oy + j < B.cs.length := by
   have := congrArg List.length hnew
   rw [List.length_take, List.length_drop, hlen] at this
   omega
  refine ⟨h2, h1, ?_⟩
  have e2 : new[j]? = some B.cs[oy + j] := by rw [← hnew, List.getElem?_take, if_pos hj, List.getElem?_drop, List.getElem?_eq_getElem h2]
  rw [List.getElem?_eq_getElem h1] at e2
  exact Option.some.inj e2
 let vs : List Value := (List.range (m * i.size)).map fun j => cur.getD (oy + j) undef
 have hvl : vs.length = m * i.size := by simp [vs]
 have hv : ∀ j (hj : j < m * i.size), ∃ u, cur[oy + j]? = some u ∧ vs[j]? = some u ∧ Rep w (live C.X x.S) (new[j]'(by omega)) u := fun j hj => by
  obtain ⟨h1, h2, h3⟩ := hin j hj
  obtain ⟨u, hu, hq⟩ := q4 (oy + j) h1
  refine ⟨u, hu, ?_, h3 ▸ hq⟩
  simp [vs, hj, hu]
 have hr : RepL w (live C.X x.S) new vs := ⟨by rw [hvl, hlen], fun j h1 h2 => by
  obtain ⟨u, _, hu, hq⟩ := hv j (by omega)
  rw [List.getElem?_eq_getElem h2] at hu
  rw [Option.some.inj hu]; exact hq⟩
 obtain ⟨s1, s2, s3⟩ := h.store (hne := hne) hk hr (o' := n * i.size) (by rw [hlen]; exact hl)
 have hrun := run_append_room_cells (P := P) w t o.type e i ht hi1 B.b 0 n cap ⟨B.b, oy, none⟩ m c vs hvl (fun j u hu => by
   rw [Addr.add_mid]
   have hj : j < m * i.size := by rw [← hvl]; exact (List.getElem?_eq_some_iff.1 hu).1
   obtain ⟨u', hu1, hu2, _⟩ := hv j hj
   rw [hu2] at hu
   rw [← hu]; exact cell_blk q1 hu1) (fun u hu => by
   obtain ⟨j, hj, rfl⟩ := List.mem_iff_getElem.1 hu
   have hj' : j < new.length := by omega
   exact (hr.2 j hj' hj).one_cell (hone _ (List.getElem_mem hj'))) hroom (fun j hj => by
   have : (0 + n * i.size + j) < cur.size := by rw [hvl] at hj; omega
   rw [cell_blk q1 (u := cur[0 + n * i.size + j]) (by simp [this])]; rfl) (fun j hj => by unfold World.frozen?; simp [q1])
 rw [Nat.zero_add] at hrun
 have hrun2 := run_append (o := o) (a := a) ho (h.flat hs) (h.flat hy) hrun
 unfold Oper.wp
 rw [hrun2, Oper.upon_value, hd]
 exact hK _ _ _ rfl (s1.put (.v _)) s2 s3

theorem AStep.appendIn {s y : Operand} {t e tt sz n m b cap k oy c : Nat} {B : Blk} {new cs' : List D} (hi' : ops[i]? = some o) (hw : Wants ops x o true) (ho : o.op = .call { callee := .builtin .append, args := #[s, y], argTypes := #[t, t] }) (hd : o.dst = some tt)
  (ht : P.underlying t = some (.slice e)) (hi : (P.info? e).map (fun i => i.size) = some sz)
  (hs : opd x s = .v (.slice (some ⟨b, 0, none⟩) n cap)) (hk : x.S[k]? = some B) (hb : B.b = b) (hy : opd x y = .v (.slice (some ⟨b, oy, none⟩) m c))
  (hnew : (B.cs.drop oy).take (m * sz) = new) (hlen : new.length = m * sz) (hone : ∀ d ∈ new, one d = true) (hroom : n + m ≤ cap) (hl : n * sz + m * sz ≤ B.cs.length) (hcs : setAll B.cs (n * sz) new = cs') (hT : ∀ b ∈ T, b ∈ bks (x.S.eraseIdx k))
  (K : AD P C ops S1 T fuel (ld.setIfInBounds i true) ⟨x.n, (tt, .v (.slice (some ⟨b, 0, none⟩) (n + m) cap)) :: x.env, x.S.set k { B with cs := cs' }⟩ Q) (hne : isMap B.e = false := by rfl) : AStep P C ops S1 T fuel ld x Q i :=
 AStep.eff hi' hw (eff_appendIn (hne := hne) ho hd ht hi hs hk hb hy hnew hlen hone hroom hl hcs) (fun C a w hs b' hb' => hb ▸ away hs hk hT b' hb') (fun b' hb' => by
  have : b' = b := by simpa using hb'
  subst this; rw [← hb]; exact mem_bks hk) fun y hy => hy ▸ K
theorem OD.appendIn {s y : Operand} {t e tt sz n m b cap k oy c : Nat} {B : Blk} {new cs' : List D} (hw : Wants ops x o true) (ho : o.op = .call { callee := .builtin .append, args := #[s, y], argTypes := #[t, t] }) (hd : o.dst = some tt)
  (ht : P.underlying t = some (.slice e)) (hi : (P.info? e).map (fun i => i.size) = some sz)
  (hs : opd x s = .v (.slice (some ⟨b, 0, none⟩) n cap)) (hk : x.S[k]? = some B) (hb : B.b = b) (hy : opd x y = .v (.slice (some ⟨b, oy, none⟩) m c))
  (hnew : (B.cs.drop oy).take (m * sz) = new) (hlen : new.length = m * sz) (hone : ∀ d ∈ new, one d = true) (hroom : n + m ≤ cap) (hl : n * sz + m * sz ≤ B.cs.length) (hcs : setAll B.cs (n * sz) new = cs')
  (K : OD P C ops l ⟨x.n, (tt, .v (.slice (some ⟨b, 0, none⟩) (n + m) cap)) :: x.env, x.S.set k { B with cs := cs' }⟩ Q) (hne : isMap B.e = false := by rfl) : OD P C ops (o :: l) x Q :=
 OD.eff hw (eff_appendIn (hne := hne) ho hd ht hi hs hk hb hy hnew hlen hone hroom hl hcs) fun y hy => hy ▸ K

/-! ### clear, behind what is known -/

theorem eff_clear {s : Operand} {t e sz n b k o' c : Nat} {z : Value} {B : Blk} (ho : o.op = .call { callee := .builtin .clear, args := #[s], argTypes := #[t] }) (hd : o.dst = none)
  (ht : P.underlying t = some (.slice e)) (hz : ∀ w, (zeroValue e).run P w = .ok z w) (hzs : z.cells.size = sz) (hz1 : z.cells.all (fun v => v.oneCell') = true)
  (hs : opd x s = .v (.slice (some ⟨b, o', none⟩) n c)) (hk : x.S[k]? = some B) (hb : B.b = b) (hcl : 0 < n → B.cs.length ≤ o' ∧ o' + n * sz ≤ B.size) (hne : isMap B.e = false := by rfl) :
  Eff P G x o [b] (fun y => y = x) := fun C a w K Q hG h hK => by
 subst hb
 have hun : ∀ {w' : World}, (Builtin.clear_ #[t] o.type #[a.eval s]).run P w = .ok (.tuple #[]) w' → (execOp a.eval o).run P w = .ok (.value (.tuple #[])) w' := fun hr => by
  unfold execOp
  simp [ho, resolve, invoke, builtin, hr]
 rcases Nat.eq_zero_or_pos n with rfl | hn
 ·have hrun : (Builtin.clear_ #[t] o.type #[a.eval s]).run P w = .ok (.tuple #[]) w := by
   rw [h.flat hs]
   simp [Builtin.clear_, run_underlying ht]
  unfold Oper.wp
  rw [hun hrun, Oper.upon_value, hd]
  exact hK _ _ _ rfl h ⟨Nat.le_refl _, fun _ _ _ => rfl⟩ (Fr.refl _ _)
 ·obtain ⟨hc1, hc2⟩ := hcl hn
  let vs := (Builtin.zeroCells z.cells n).toList
  have hvl : vs.length = n * sz := by simp [vs, size_zeroCells, hzs]
  have hv1 : ∀ v ∈ vs, v.oneCell' = true := fun v hv => by
   simp only [vs, Builtin.zeroCells, Array.toList_map, List.mem_map] at hv
   obtain ⟨j, hj, rfl⟩ := hv
   have hj' : j < n * z.cells.size := by simpa using hj
   have h0 : 0 < z.cells.size := by
    rcases Nat.eq_zero_or_pos z.cells.size with h0 | h0
    ·rw [h0] at hj'; simp at hj'
    ·exact h0
   have hlt := Nat.mod_lt j h0
   have := Array.all_eq_true.1 hz1 _ hlt
   rw [getElem!_pos z.cells _ hlt]; exact this
  obtain ⟨h0, cur, q1, q2, q3, q4⟩ := h.blk hk
  rw [ob_cells hne] at q1
  have hst := run_storeCells_cells (P := P) B.b o' vs 0 w (fun j hj => by
    have : (o' + 0 + j) < cur.size := by omega
    rw [cell_blk q1 (u := cur[o' + 0 + j]) (by simp [this])]; rfl) (fun j hj => by unfold World.frozen?; simp [q1]) hv1
  have hrun : (Builtin.clear_ #[t] o.type #[a.eval s]).run P w = .ok (.tuple #[]) (w.setCells B.b o' vs) := by
   rw [h.flat hs]
   obtain ⟨m, rfl⟩ : ∃ m, n = m + 1 := ⟨n - 1, by omega⟩
   simp only [Nat.add_zero] at hst
   simp [Builtin.clear_, run_underlying ht, hz, vs, hst]
  have hkl := (List.getElem?_eq_some_iff.1 hk).1
  have hkB := (List.getElem?_eq_some_iff.1 hk).2
  -- widened, stored, and forgotten again
  let cw := B.cs ++ List.replicate (B.size - B.cs.length) D.junk
  have hw := Wk.recs (n := x.n) (l := x.env) (cs' := cw) hk (by simp [cw]; omega) (fun i d hid => by
   rcases Nat.lt_or_ge i B.cs.length with hi | hi
   ·left; rw [← hid]; simp only [cw]; rw [List.getElem?_append_left hi]
   ·right
    simp only [cw] at hid
    rw [List.getElem?_append_right hi] at hid
    exact List.eq_of_mem_replicate (List.mem_of_getElem? hid)) C a w h
  have hk2 : (⟨x.n, x.env, x.S.set k { B with cs := cw }⟩ : St).S[k]? = some { B with cs := cw } := by simp [hkl]
  have hjr : RepL w (live C.X (⟨x.n, x.env, x.S.set k { B with cs := cw }⟩ : St).S) (List.replicate (n * sz) D.junk) vs := ⟨by simp [hvl], fun j h1 h2 => by rw [List.getElem_replicate]; exact .junk _⟩
  obtain ⟨s1, s2, s3⟩ := hw.store (hne := hne) hk2 hjr (o' := o') (by simp [cw]; omega)
  have hset : setAll cw o' (List.replicate (n * sz) D.junk) = cw.take o' ++ List.replicate (n * sz) D.junk ++ cw.drop (o' + n * sz) := by
   rw [setAll_eq _ _ _ (by simp [cw]; omega), List.length_replicate]
  have hk3 : (x.S.set k { B with cs := setAll cw o' (List.replicate (n * sz) D.junk) })[k]? = some { B with cs := setAll cw o' (List.replicate (n * sz) D.junk) } := by simp [hkl]
  have h1 : Sim C ⟨x.n, x.env, x.S.set k { B with cs := setAll cw o' (List.replicate (n * sz) D.junk) }⟩ a (w.setCells B.b o' vs) := by simpa [List.set_set] using s1
  have h2 := Wk.recs (n := x.n) (l := x.env) (cs' := B.cs) hk3 (by simpa using q3) (fun i d hid => by
   left
   have hi := (List.getElem?_eq_some_iff.1 hid).1
   simp only [hset]
   rw [List.append_assoc, List.getElem?_append_left (by simp [cw]; omega), List.getElem?_take, if_pos (by omega)]
   simp only [cw]
   rw [List.getElem?_append_left hi, hid]) C a _ h1
  have hx : (⟨x.n, x.env, (x.S.set k { B with cs := setAll cw o' (List.replicate (n * sz) D.junk) }).set k { B with cs := B.cs }⟩ : St) = x := by
   rw [List.set_set]
   have : x.S.set k { B with cs := B.cs } = x.S := by
    apply List.ext_getElem (by simp)
    intro i q1 q2
    rw [List.getElem_set]
    split
    ·rename_i e; subst e; exact hkB.symm
    ·rfl
   rw [this]
  have hbk : ∀ cs1 : List D, bks (x.S.set k { B with cs := cs1 }) = bks x.S := fun cs1 => by
   unfold bks
   rw [List.map_set]
   apply List.ext_getElem (by simp)
   intro i q1 q2
   rw [List.getElem_set]
   split
   ·rename_i e; subst e; simp [hkB]
   ·rfl
  have h3 : Sim C x a (w.setCells B.b o' vs) := by
   have h2' := h2
   simp only at h2'
   rw [hx] at h2'
   exact h2'
  simp only [List.set_set, hbk] at s3
  unfold Oper.wp
  rw [hun hrun, Oper.upon_value, hd]
  exact hK _ _ _ rfl h3 s2 s3

theorem OD.clear {s : Operand} {t e sz n b k o' c : Nat} {z : Value} {B : Blk} (hw : Wants ops x o true) (ho : o.op = .call { callee := .builtin .clear, args := #[s], argTypes := #[t] }) (hd : o.dst = none)
  (ht : P.underlying t = some (.slice e)) (hz : ∀ w, (zeroValue e).run P w = .ok z w) (hzs : z.cells.size = sz) (hz1 : z.cells.all (fun v => v.oneCell') = true)
  (hs : opd x s = .v (.slice (some ⟨b, o', none⟩) n c)) (hk : x.S[k]? = some B) (hb : B.b = b) (hcl : 0 < n → B.cs.length ≤ o' ∧ o' + n * sz ≤ B.size) (K : OD P C ops l x Q) (hne : isMap B.e = false := by rfl) : OD P C ops (o :: l) x Q :=
 OD.eff hw (eff_clear (hne := hne) ho hd ht hz hzs hz1 hs hk hb hcl) fun y hy => hy ▸ K

/-! ### A call that looks at rows of one's own and keeps other blocks as they are -/

def LooksR (x : St) (R : List Blk) : List Operand → List D → Prop
 | [], [] => True
 | o :: r, d :: r' => (∃ d0, opd x o = d0 ∧ View R d0 d) ∧ LooksR x R r r'
 | _, _ => False

theorem LooksR.rep {C : Ctx} {a : Act} {w : World} (h : Sim C x a w) {X Y : Nat → Prop} {R : List Blk} (hY : ∀ b, Y b → X b) (hX : ∀ b, X b → b ∉ bks R) (ho : Own w (live X R) R) (hl : live C.X x.S = live X R) : ∀ {os : List Operand} {ds : List D}, LooksR x R os ds → RepL w Y ds (os.map a.eval)
 | [], [], _ => ⟨rfl, fun i h => by simp at h⟩
 | o :: r, d :: r', ⟨⟨d0, h1, h2⟩, h3⟩ => RepL.cons (h2 X Y w _ hY hX ho (hl ▸ h1 ▸ h.eval o)) (LooksR.rep h hY hX ho hl h3)
 | [], _ :: _, h => h.elim
 | _ :: _, [], h => h.elim

/-! ### The same blocks in another order: by counting -/

theorem perm_cnt {l r : List Blk} (h : ∀ f : Blk → Nat, (l.map f).sum = (r.map f).sum) : l.Perm r := by
 classical
 rw [List.perm_iff_count]
 intro a
 have key : ∀ l : List Blk, (l.map fun b => if b = a then 1 else 0).sum = l.count a := by
  intro l
  induction l with
  | nil => rfl
  | cons b l ih =>
   rw [List.map_cons, List.sum_cons, ih, List.count_cons]
   by_cases e : b = a <;> simp [e, Nat.add_comm]
 have := h (fun b => if b = a then 1 else 0)
 rw [key, key] at this
 exact this
theorem perm_sum {l r : List Blk} (h : l.Perm r) (f : Blk → Nat) : (l.map f).sum = (r.map f).sum := by
 induction h with
 | nil => rfl
 | cons x _ ih => simp [ih]
 | swap x y l => simp only [List.map_cons, List.sum_cons]; omega
 | trans _ _ h1 h2 => exact h1.trans h2

theorem NP.norm {Φ : St → Prop} : NP (fun e y => e = Exit.normal ∧ Φ y) := fun c y t hq => by cases hq.1

end Go.Proofs.Ythnobhekodiciaa.V

namespace Go.Proofs.Ythnobhekodiciaa.V
open Go.RowKit
set_option linter.unusedVariables false
set_option linter.unusedSimpArgs false

variable {P : Program} {C : Ctx} {G : List (Nat × List Value)} {Q : Exit → St → Prop} {x : St} {ops : Array Oper} {l : List Oper} {o : Oper}

theorem ownL_nil {e sz : Nat} {α : Type} {g : α → List D} : OwnL e sz (([] : List α).flatMap g) ([] : List α).length none 0 [] := .inl ⟨rfl, rfl, rfl, rfl, rfl⟩
theorem OwnL.cast {e sz cap : Nat} {α : Type} {g : α → List D} {ls ls' : List α} {ad : Option Addr} {S : List Blk} (h : OwnL e sz (ls.flatMap g) ls.length ad cap S) (he : ls = ls') : OwnL e sz (ls'.flatMap g) ls'.length ad cap S := he ▸ h
theorem ownL_row {e sz b cap : Nat} {α : Type} {g : α → List D} {ls : List α} (h1 : ls.length ≤ cap) (h2 : cap ≤ maxLen) : OwnL e sz (ls.flatMap g) ls.length (some ⟨b, 0, none⟩) cap [⟨b, e, cap * sz, ls.flatMap g⟩] := .inr ⟨b, rfl, h1, h2, rfl⟩

/-- A list of one's own is handed back. -/
def RetL {α : Type} (g : α → List D) (e sz : Nat) (ls : List α) (r : D) (S : List Blk) : Prop := ∃ ad cap, r = .v (.slice ad ls.length cap) ∧ OwnL e sz (ls.flatMap g) ls.length ad cap S

theorem RetL.view {α : Type} {g : α → List D} {e sz : Nat} {ls : List α} {r : D} {S : List Blk} (hg : ∀ a, (g a).length = sz) (h : RetL g e sz ls r S) (hne : isMap e = false := by rfl) : View S r (.list sz (ls.flatMap g) ls.length) := by
 obtain ⟨ad, cap, rfl, ho⟩ := h
 exact view_own (hne := hne) ho (fm_len hg ls) (fun B hB => hB)

theorem VC.given {α : Type} {g : α → List D} {e sz : Nat} {ls : List α} {f : FuncId} {args : List D} (hg : ∀ a, (g a).length = sz) (h : VC P G f args [] (RetL g e sz ls)) (hne : isMap e = false := by rfl) : VP P G f args (.list sz (ls.flatMap g) ls.length) :=
 h.cover fun r S hr => RetL.view (hne := hne) hg hr

theorem VC.post {f : FuncId} {args : List D} {S : List Blk} {post post' : D → List Blk → Prop} (h : VC P G f args S post) (k : ∀ r S', post r S' → post' r S') : VC P G f args S post' := fun X w vs hp =>
 (h X w vs hp).mono fun e w' ⟨v, r, S', h1, h2, h3⟩ => ⟨v, r, S', h1, k _ _ h2, h3⟩

/-- A list of one's own is given up to reading. -/
theorem Wk.giveL {n t m cap e sz : Nat} {l : List (Nat × D)} {S Sq R : List Blk} {cs : List D} {ad : Option Addr} (ht : look t l = .v (.slice ad m cap)) (ho : OwnL e sz cs m ad cap Sq) (hl : cs.length = m * sz) (hp : S.Perm (Sq ++ R)) (hne : isMap e = false := by rfl) : Wk ⟨n, l, S⟩ ⟨n, (t, .list sz cs m) :: l, R⟩ := by
  refine (Wk.perm hp).trans ?_
  rcases ho with ⟨rfl, rfl, rfl, rfl, rfl⟩ | ⟨b, rfl, h1, h2, rfl⟩
  · exact Wk.giveNil ht
  · exact Wk.give (hne := hne) (k := 0) rfl ht rfl hl h1 h2

theorem OD.giveL {t m cap e sz : Nat} {Sq R : List Blk} {cs : List D} {ad : Option Addr} (ht : V.look t x.env = .v (.slice ad m cap)) (ho : OwnL e sz cs m ad cap Sq) (hl : cs.length = m * sz) (hp : x.S.Perm (Sq ++ R)) (K : OD P C ops l ⟨x.n, (t, .list sz cs m) :: x.env, R⟩ Q) (hne : isMap e = false := by rfl) : OD P C ops l x Q :=
 OD.wk (Wk.giveL (hne := hne) (n := x.n) (S := x.S) ht ho hl hp) K
theorem CD.giveL {c : Code} {t m cap e sz : Nat} {Sq R : List Blk} {cs : List D} {ad : Option Addr} (ht : V.look t x.env = .v (.slice ad m cap)) (ho : OwnL e sz cs m ad cap Sq) (hl : cs.length = m * sz) (hp : x.S.Perm (Sq ++ R)) (K : CD P C c ⟨x.n, (t, .list sz cs m) :: x.env, R⟩ Q) (hne : isMap e = false := by rfl) : CD P C c x Q :=
 CD.wk (Wk.giveL (hne := hne) (n := x.n) (S := x.S) ht ho hl hp) K

theorem RetL.mk {α : Type} {g : α → List D} {e sz cap : Nat} {ls : List α} {ad : Option Addr} {S : List Blk} (h : OwnL e sz (ls.flatMap g) ls.length ad cap S) : RetL g e sz ls (.v (.slice ad ls.length cap)) S := ⟨ad, cap, rfl, h⟩
theorem RetL.cast {α : Type} {g : α → List D} {e sz : Nat} {ls ls' : List α} {r : D} {S : List Blk} (h : RetL g e sz ls r S) (he : ls = ls') : RetL g e sz ls' r S := he ▸ h

theorem row_eq {α : Type} {cap : Nat} {ls ls' : List α} {ad : Option Addr} (h : ls = ls') : D.v (.slice ad ls.length cap) = D.v (.slice ad ls'.length cap) := by rw [h]

/-! One row among those at hand: ahead of all, and back. -/
theorem perm_r11 {A S1 : List Blk} : (A ++ S1).Perm (S1 ++ A) := List.perm_append_comm
theorem perm_r12 {A S1 S2 : List Blk} : (A ++ (S1 ++ S2)).Perm (S1 ++ (A ++ S2)) := List.perm_append_comm_assoc _ _ _
theorem perm_r13 {A S1 S2 S3 : List Blk} : (A ++ (S1 ++ (S2 ++ S3))).Perm (S1 ++ (A ++ (S2 ++ S3))) := perm_r12
theorem perm_r23 {A S1 S2 S3 : List Blk} : (A ++ (S1 ++ (S2 ++ S3))).Perm (S2 ++ (A ++ (S1 ++ S3))) := (perm_r12.append_left A).trans perm_r12
theorem perm_r33 {A S1 S2 S3 : List Blk} : (A ++ (S1 ++ (S2 ++ S3))).Perm (S3 ++ (A ++ (S1 ++ S2))) := (((List.perm_append_comm.append_left S1).trans perm_r12).append_left A).trans perm_r12
theorem perm_q11 {A S1 : List Blk} : (S1 ++ A).Perm (A ++ S1) := perm_r11.symm
theorem perm_q12 {A S1 S2 : List Blk} : (S1 ++ (A ++ S2)).Perm (A ++ (S1 ++ S2)) := perm_r12.symm
theorem perm_q13 {A S1 S2 S3 : List Blk} : (S1 ++ (A ++ (S2 ++ S3))).Perm (A ++ (S1 ++ (S2 ++ S3))) := perm_r13.symm
theorem perm_q23 {A S1 S2 S3 : List Blk} : (S2 ++ (A ++ (S1 ++ S3))).Perm (A ++ (S1 ++ (S2 ++ S3))) := perm_r23.symm
theorem perm_q33 {A S1 S2 S3 : List Blk} : (S3 ++ (A ++ (S1 ++ S2))).Perm (A ++ (S1 ++ (S2 ++ S3))) := perm_r33.symm

/-! ### A string appended to bytes -/

/-- append of a list that may be empty onto a list of one's own. -/
theorem OD.appendAny {α : Type} {g : α → List D} {ls new : List α} {s y : Operand} {t e tt sz bytes cap : Nat} {ad : Option Addr} {z : Value} {Sq R : List Blk} (hg : ∀ a, (g a).length = sz) (hg1 : ∀ a, (g a).all one = true) (hw : Wants ops x o true) (ho : o.op = .call { callee := .builtin .append, args := #[s, y], argTypes := #[t, t] }) (hd : o.dst = some tt)
    (ht : P.underlying t = some (.slice e)) (hi : (P.info? e).map (fun i => (i.zero, i.size, i.bytes)) = some (some z, sz, bytes)) (hzs : z.cells.size = sz) (hsz : 0 < sz) (hu : ∀ w, (underlying t).run P w = .ok (.slice e) w) (hse : ∀ w, (sizeOf e).run P w = .ok sz w)
    (hs : opd x s = .v (.slice ad ls.length cap)) (ho' : OwnL e sz (ls.flatMap g) ls.length ad cap Sq) (hp : x.S.Perm (Sq ++ R))
    (hy : opd x y = .list sz (new.flatMap g) new.length) (h63 : ls.length + new.length ≤ maxLen) (hbytes : (ls.length + new.length) * bytes ≤ 140737488355328)
    (K : ∀ ad' cap' S', OwnL e sz ((ls ++ new).flatMap g) (ls ++ new).length ad' cap' S' → OD P C ops l ⟨x.n, (tt, .v (.slice ad' (ls ++ new).length cap')) :: x.env, S' ++ R⟩ Q) (hne : isMap e = false := by rfl) : OD P C ops (o :: l) x Q := by
  rcases Nat.eq_zero_or_pos new.length with h0 | h0
  · have hn : new = [] := List.eq_nil_of_length_eq_zero h0
    subst hn
    refine OD.still hw hd (still_append0 ho hu hse hs ho'.le hy) ?_
    have := K ad cap Sq (by rw [List.append_nil]; exact ho')
    rw [List.append_nil] at this
    exact OD.wk (Wk.perm (n := x.n) hp) this
  · exact OD.appendG (hne := hne) hg hg1 hw ho hd ht hi hzs hsz hs ho' hp hy h0 h63 hbytes fun b' cap' h1 h2 => K _ cap' _ (ownL_row h1 h2)

/-! ### A table as a list -/

/-! ### Bytes, strings -/

theorem vb {x y : Bool} (h : x = y) : D.v (.bool x) = D.v (.bool y) := by rw [h]
theorem vi {k : IntKind} {x y : Int} (h : x = y) : D.v (.int k x) = D.v (.int k y) := by rw [h]
theorem vs {x y : ByteArray} (h : x = y) : D.v (.string x) = D.v (.string y) := by rw [h]

def cB (b : UInt8) : List D := [byteD b]
theorem cB_len (b : UInt8) : (cB b).length = 1 := rfl
theorem cB_one (b : UInt8) : (cB b).all one = true := rfl
theorem cB_map (bs : List UInt8) : bs.flatMap cB = bs.map byteD := by
 induction bs with
 | nil => rfl
 | cons a r ih => rw [List.flatMap_cons, ih]; rfl
theorem still_ofBytesF {s t e : TypeId} {y : Operand} {bs : List UInt8} {n : Nat} (ho : o.op = .convert s t y) (hy : opd x y = .list 1 (bs.flatMap cB) n) (hs : P.underlying s = some (.slice e)) (he : P.underlying e = some (.int .u8)) (ht : P.underlying t = some .string) :
  Still P G x o .imm (.v (.string ⟨bs.toArray⟩)) := still_ofBytes ho (by rw [hy, cB_map]) hs he ht

/-! ### The first place where something holds -/

end Go.Proofs.Ythnobhekodiciaa.V

namespace Go.Proofs.Ythnobhekodiciaa.V
open Go.RowKit
set_option linter.unusedVariables false
set_option linter.unusedSimpArgs false

variable {P : Program} {C : Ctx} {G : List (Nat × List Value)} {Q : Exit → St → Prop} {x : St} {ops : Array Oper} {l : List Oper} {o : Oper} {S1 T : List Nat} {fuel i : Nat} {ld : Array Bool}

theorem still_nslice {t e : TypeId} {sz : Nat} {y : Operand} {lo hi : Option Operand} (ho : o.op = .slice t y lo hi none) (hy : opd x y = .v (.slice none 0 0)) (hlo : bound x lo 0 0) (hhi : bound x hi 0 0)
  (hu : ∀ w, (underlying t).run P w = .ok (.slice e) w) (hs : ∀ w, (sizeOf e).run P w = .ok sz w) : Still P G x o .none (.v (.slice none 0 0)) := fun C a w _ h =>
 ⟨_, .v _, fun w' _ => by
  have b1 := bound_eval h hlo
  have b2 := bound_eval h hhi
  unfold execOp
  simp [ho, h.flat hy, Instr.sliceAt, Instr.slice, hu, run_sbounds b1 b2 (Nat.zero_le _) (Nat.le_refl _), hs]⟩

theorem OwnL.pos {e sz n cap : Nat} {cs : List D} {ad : Option Addr} {S : List Blk} (h : OwnL e sz cs n ad cap S) (hn : 0 < n) : ∃ b, ad = some ⟨b, 0, none⟩ ∧ n ≤ cap ∧ cap ≤ maxLen ∧ S = [⟨b, e, cap * sz, cs⟩] := by
 rcases h with ⟨h1, _, _, _, _⟩ | h
 ·omega
 ·exact h
/-- append of structs onto a list of one's own, where the order is drawn. -/
theorem AStep.appendG {α : Type} {g : α → List D} {ls new : List α} {s y : Operand} {t e tt sz bytes cap : Nat} {ad : Option Addr} {z : Value} {Sq R : List Blk} (hg : ∀ a, (g a).length = sz) (hg1 : ∀ a, (g a).all one = true) (hi' : ops[i]? = some o) (hw : Wants ops x o true) (ho : o.op = .call { callee := .builtin .append, args := #[s, y], argTypes := #[t, t] }) (hd : o.dst = some tt)
    (ht : P.underlying t = some (.slice e)) (hi : (P.info? e).map (fun i => (i.zero, i.size, i.bytes)) = some (some z, sz, bytes)) (hzs : z.cells.size = sz) (hsz : 0 < sz)
    (hs : opd x s = .v (.slice ad ls.length cap)) (ho' : OwnL e sz (ls.flatMap g) ls.length ad cap Sq) (hp : x.S.Perm (Sq ++ R))
    (hy : opd x y = .list sz (new.flatMap g) new.length) (hm : 0 < new.length) (h63 : ls.length + new.length ≤ maxLen) (hbytes : (ls.length + new.length) * bytes ≤ 140737488355328)
    (K : ∀ b' cap', (ls ++ new).length ≤ cap' → cap' ≤ maxLen → AD P C ops S1 T fuel (ld.setIfInBounds i true) ⟨x.n, (tt, .v (.slice (some ⟨b', 0, none⟩) (ls ++ new).length cap')) :: x.env, ⟨b', e, cap' * sz, (ls ++ new).flatMap g⟩ :: R⟩ Q) (hne : isMap e = false := by rfl)
    (hT : ∀ b ∈ T, b ∈ bks R := by first | exact fun b hb => hb | (intro b hb; simp [bks] at hb ⊢; first | exact hb | exact .inl hb | (rcases hb with hb | hb <;> simp [hb]) | (rcases hb with hb | hb | hb <;> simp [hb]) | (rcases hb with hb | hb | hb | hb <;> simp [hb]) | (rcases hb with hb | hb | hb | hb | hb <;> simp [hb]) | (rcases hb with hb | hb | hb | hb | hb | hb <;> simp [hb]) | (rcases hb with hb | hb | hb | hb | hb | hb | hb <;> simp [hb]) | (rcases hb with hb | hb | hb | hb | hb | hb | hb | hb <;> simp [hb]))) : AStep P C ops S1 T fuel ld x Q i :=
  AStep.appendOwn (hne := hne) hi' hw ho hd ht hi hzs hsz hs ho' hp (fm_len hg ls) hy (fm_one hg1 new) hm h63 hbytes hT fun b' cap' h1 h2 => by
    have := K b' cap' (by rw [List.length_append]; exact h1) h2
    rw [List.length_append, List.flatMap_append] at this
    exact this
end Go.Proofs.Ythnobhekodiciaa.V

namespace Go.Proofs.Ythnobhekodiciaa.V
open Go.RowKit
set_option linter.unusedVariables false
set_option linter.unusedSimpArgs false

variable {P : Program} {C : Ctx} {G : List (Nat × List Value)} {Q : Exit → St → Prop} {x : St} {ops : Array Oper} {l : List Oper} {o : Oper} {S1 T : List Nat} {fuel i : Nat} {ld : Array Bool}

/-- What the entries of Go's library read of a list of bytes. -/
theorem bytesOf_rep {w w' : World} {L : Nat → Prop} {bs : List UInt8} {n : Nat} {v : Value} (hr : Rep w L (.list 1 (bs.flatMap cB) n) v) (hw : ∀ b, b < w.heap.size → ¬ L b → w'.heap[b]? = w.heap[b]?) :
    (Extern.Bytes.bytesOf v).run P w' = .ok ⟨bs.toArray⟩ w' := by
  rw [cB_map] at hr
  generalize hcs : bs.map byteD = cs at hr
  cases hr with
  | void _ ad cap =>
    have : bs = [] := by simpa using hcs
    subst this
    cases ad <;> rfl
  | list _ _ _ b o'' cap g hl q1 q2 hb hL hc hrr =>
    subst hcs
    simp only [List.length_map, Nat.mul_one] at hl hc
    have hrun := Lib.run_loadBytesX (P := P) w' (bs.map fun c => (c.toNat : Int)) ⟨b, o'', none⟩ .empty (fun j x hj => by
      rw [Addr.add_mid]
      have hjl : j < bs.length := by have := (List.getElem?_eq_some_iff.1 hj).1; simpa using this
      have hh := World.cell?_of_block (w := w) (a := ⟨b, o'' + j, none⟩) (hw b hb hL)
      rw [hh, hc j hjl]
      have h1 := hrr j (by simpa using hjl)
      simp only [List.getElem_map, byteD] at h1
      rw [h1.v_eq]
      rw [List.getElem?_map, List.getElem?_eq_getElem hjl] at hj
      simp only [Option.map_some, Option.some.injEq] at hj
      rw [hj])
    rw [List.length_map, hl] at hrun
    have e : Lib.bytesOf (bs.map fun c => (c.toNat : Int)) = bs := by
      unfold Lib.bytesOf
      rw [List.map_map]
      have : ∀ c : UInt8, ((fun n : Int => UInt8.ofNat n.toNat) ∘ fun c : UInt8 => (c.toNat : Int)) c = c := fun c => by simp
      rw [List.map_congr_left (g := id) (fun c _ => this c), List.map_id]
    rw [e] at hrun
    show (Extern.Bytes.loadBytes ⟨b, o'', none⟩ n .empty).run P w' = _
    rw [hrun]
    congr 1
    apply ByteArray.ext
    show (#[] : Array UInt8) ++ bs.toArray = bs.toArray
    simp

/-- internal/bytealg.Compare of two lists of bytes. -/
theorem still_bytecmp {f : FuncId} {fn : Func} {y z : Operand} {ts : Array TypeId} {ds bs : List UInt8} {n m : Nat} (ho : o.op = .call { callee := .value (.func f), args := #[y, z], argTypes := ts }) (hy : opd x y = .list 1 (ds.flatMap cB) n) (hz : opd x z = .list 1 (bs.flatMap cB) m)
    (hf : P.funcs[f]? = some fn) (hname : (fn.name == "runtime.NumGoroutine") = false) (hb : fn.body.isNone = true) (hn : Extern.findNext fn = none) (he : Extern.find fn = some Extern.BytealgCompare.compare) :
    Still P G x o .imm (.v (.int .i64 (Lib.compareBytes ds bs))) := fun C a w _ h => by
  have h1 := h.eval y
  have h2 := h.eval z
  rw [hy] at h1
  rw [hz] at h2
  refine ⟨_, .v _, fun w' hw => ?_⟩
  have e1 := bytesOf_rep (P := P) h1 hw
  have e2 := bytesOf_rep (P := P) h2 hw
  have hc : (callFunc f #[a.eval y, a.eval z]).run P w' = .ok (.value (.int .i64 (Lib.compareBytes ds bs))) w' := by
    rw [run_callFunc_extern hf hname hb hn he]
    have : (Extern.BytealgCompare.compare #[a.eval y, a.eval z]).run P w' = .ok (.int .i64 (Lib.compareBytes ds bs)) w' := by
      change Sem.run P (do pure (goInt (Extern.BytealgCompare.cmp (← Extern.Bytes.bytesOf (a.eval y)) (← Extern.Bytes.bytesOf (a.eval z))))) w' = _
      simp only [Sem.run_bind, e1, e2, Sem.run_pure, Result.andThen_ok, Lib.cmp_eq]
      rfl
    rw [this]; rfl
  unfold execOp
  have ef : a.eval (.func f) = .func (.func f) #[] #[] := rfl
  generalize hy' : a.eval y = u at *
  generalize hz' : a.eval z = v at *
  simp only [ho, resolve, ef, Deferred.ofValue, Sem.run_bind, Sem.run_pure, Result.andThen_ok, invoke]
  simp [hc, hy', hz']
end Go.Proofs.Ythnobhekodiciaa.V

namespace Go.Proofs.Ythnobhekodiciaa.V
open Go.RowKit
set_option linter.unusedVariables false
set_option linter.unusedSimpArgs false

variable {P : Program} {C : Ctx} {G : List (Nat × List Value)} {Q : Exit → St → Prop} {x : St} {ops : Array Oper} {l : List Oper} {o : Oper} {S1 T : List Nat} {fuel i : Nat} {ld : Array Bool}

theorem AStep.callv {f t : Nat} {fo : Operand} {ars : Array Operand} {ts : Array TypeId} {args caps all : List D} {Sf R : List Blk} {post : D → List Blk → Prop} (hi : ops[i]? = some o) (hw : Wants ops x o true) (ho : o.op = .call { callee := .value fo, args := ars, argTypes := ts }) (hd : o.dst = some t)
  (hf : opd x fo = .clo (.func f) caps) (hcall : ∀ args w, (callFunc f args).run P w = .ok (.enter f args) w) (hc : VC P C.G f all Sf post) (hall : args ++ caps = all) (ha : Opds x ars.toList args) (hp : x.S.Perm (Sf ++ R)) (hT : ∀ b ∈ T, b ∈ bks R)
  (K : ∀ r S', post r S' → AD P C ops S1 T fuel (ld.setIfInBounds i true) ⟨x.n, (t, r) :: x.env, S' ++ R⟩ Q) : AStep P C ops S1 T fuel ld x Q i :=
 AStep.eff hi hw (eff_callv ho hd hf hcall (by rw [ha.eq, hall]) hp hc) (fun C a w hs b hb hm => by
  have h1 : (bks x.S).Perm (bks Sf ++ bks R) := by have := hp.map Blk.b; simpa [bks] using this
  have h2 := h1.nodup_iff.1 hs.own.apart
  exact (List.nodup_append.1 h2).2.2 b hm b (hT b hb) rfl) (fun b hb => by
  have h1 : (bks x.S).Perm (bks Sf ++ bks R) := by have := hp.map Blk.b; simpa [bks] using this
  exact h1.symm.subset (List.mem_append_left _ hb)) fun y ⟨r, S', h, hy⟩ => hy ▸ K r S' h

/-- A contract for arguments that read one way holds where they read another. -/
theorem VC.args {f : FuncId} {cs bs : List D} {S : List Blk} {post : D → List Blk → Prop} (h : VC P G f cs S post) (hl : bs.length = cs.length) (hr : ∀ (w : World) (L : Nat → Prop) (i : Nat) (h1 : i < cs.length) (h2 : i < bs.length) (v : Value), Rep w L bs[i] v → Rep w L cs[i] v) : VC P G f bs S post := fun X w vs hp => by
  refine h X w vs ⟨hp.ex, hp.tab, hp.own, ?_, fun i h1 h2 => ?_⟩
  · rw [hp.args.1, hl]
  · exact hr w _ i h1 (by omega) _ (hp.args.2 i (by omega) h2)
end Go.Proofs.Ythnobhekodiciaa.V

namespace Go.Proofs.Ythnobhekodiciaa.V
open Go.RowKit
set_option linter.unusedVariables false
set_option linter.unusedSimpArgs false

variable {P : Program} {G : List (Nat × List Value)} {x : St} {o : Oper} {C : Ctx} {Q : Exit → St → Prop} {ops : Array Oper} {l : List Oper}

/-- The keys of a set, in the order in which they came. -/
def keysD (ks : List Int) : List D := ks.map fun k => .v (.int .i64 k)
def setB (b : Nat) (ks : List Int) : Blk := ⟨b, mapTag, ks.length, keysD ks⟩

theorem keys_cur {w : World} {L : Nat → Prop} {ks : List Int} {cur : Array Value} (h2 : cur.size = ks.length) (h4 : ∀ i (h : i < (keysD ks).length), ∃ u, cur[i]? = some u ∧ Rep w L (keysD ks)[i] u) : cur = (ks.map (Value.int .i64)).toArray := by
 apply Array.ext (by simp [h2])
 intro i q1 q2
 have hi : i < ks.length := by omega
 obtain ⟨u, hu, hr⟩ := h4 i (by simpa [keysD] using hi)
 simp only [keysD, List.getElem_map] at hr
 have := hr.v_eq
 subst this
 have e := (Array.getElem?_eq_some_iff.1 hu).2
 rw [e]; simp

/-- A block turns into another one at its place. -/
theorem Sim.setOb {a : Act} {w : World} (h : Sim C x a w) {i : Nat} {B B' : Blk} {cur' : Array Value} (hk : x.S[i]? = some B) (hb : B'.b = B.b) (h2 : cur'.size = B'.size) (h3 : B'.cs.length ≤ B'.size)
    (h4 : ∀ j (hj : j < B'.cs.length), ∃ u, cur'[j]? = some u ∧ Rep w (live C.X x.S) B'.cs[j] u) :
    Sim C ⟨x.n, x.env, x.S.set i B'⟩ a { w with heap := w.heap.setIfInBounds B.b (ob B'.e cur') } ∧ Chg [B.b] w { w with heap := w.heap.setIfInBounds B.b (ob B'.e cur') } ∧ Fr w (bks x.S) { w with heap := w.heap.setIfInBounds B.b (ob B'.e cur') } (bks (x.S.set i B')) := by
  obtain ⟨h0, cur, r1, r2, r3, r4⟩ := h.blk hk
  generalize hw' : ({ w with heap := w.heap.setIfInBounds B.b (ob B'.e cur') } : World) = w'
  have i1 : w'.heap[B.b]? = some (ob B'.e cur') := by rw [← hw']; simp [h0]
  have i2 : ∀ b, b ≠ B.b → w'.heap[b]? = w.heap[b]? := fun b hn => by rw [← hw']; simp [Ne.symm hn]
  have i3 : w'.heap.size = w.heap.size := by rw [← hw']; simp
  have i4 : w'.os = w.os := by rw [← hw']
  have i5 : w'.tape = w.tape := by rw [← hw']
  have i6 : w'.output = w.output := by rw [← hw']
  have hkl : i < x.S.length := (List.getElem?_eq_some_iff.1 hk).1
  have hkB : x.S[i] = B := (List.getElem?_eq_some_iff.1 hk).2
  have hbks : bks (x.S.set i B') = bks x.S := by
    unfold bks
    rw [List.map_set]
    apply List.ext_getElem (by simp)
    intro j q1 q2
    rw [List.getElem_set]
    split
    · rename_i e; subst e; simp [hkB, hb]
    · rfl
  have hlive : live C.X (x.S.set i B') = live C.X x.S := by funext b; simp only [live, hbks]
  have hB : live C.X x.S B.b := live_blk hk
  have H : ∀ b, b < w.heap.size → ¬ live C.X x.S b → w'.heap[b]? = w.heap[b]? ∧ ¬ live C.X x.S b := fun b _ hn => ⟨i2 b (fun e => hn (e ▸ hB)), hn⟩
  refine ⟨⟨h.defers, h.size, fun t ht => ?_, ⟨fun B2 hB2 => ?_, ?_⟩, ?_, h.ex, h.tab⟩, ⟨by rw [i3]; exact Nat.le_refl _, fun b _ hn => i2 b (by simpa using hn)⟩, ?_⟩
  · simp only [hlive]; exact (h.env t ht).mono H
  · simp only [hlive]
    obtain ⟨j, hj, hje⟩ := List.mem_iff_getElem.1 hB2
    rw [List.length_set] at hj
    rw [List.getElem_set] at hje
    by_cases e : i = j
    · rw [if_pos e] at hje
      subst hje
      refine ⟨by rw [i3, hb]; exact h0, cur', by rw [hb]; exact i1, h2, h3, fun q hq => ?_⟩
      obtain ⟨u, hu, hq'⟩ := h4 q hq
      exact ⟨u, hu, hq'.mono H⟩
    · rw [if_neg e] at hje
      subst hje
      have hne : x.S[j].b ≠ B.b := fun he => by
        have h1' : (bks x.S)[j]'(by simpa [bks] using hj) = (bks x.S)[i]'(by simpa [bks] using hkl) := by simp [bks, he, hkB]
        have hp := List.pairwise_iff_getElem.1 h.own.apart
        rcases Nat.lt_trichotomy j i with hjk | hjk | hjk
        · exact hp j i (by simpa [bks] using hj) (by simpa [bks] using hkl) hjk h1'
        · exact e hjk.symm
        · exact hp i j (by simpa [bks] using hkl) (by simpa [bks] using hj) hjk h1'.symm
      obtain ⟨q0, cur2, q1, q2, q3, q4⟩ := h.own.at_ x.S[j] (List.getElem_mem hj)
      refine ⟨by rw [i3]; exact q0, cur2, (i2 _ hne).trans q1, q2, q3, fun q hq => ?_⟩
      obtain ⟨u, hu, hq'⟩ := q4 q hq
      exact ⟨u, hu, hq'.mono H⟩
  · simp only [hbks]; exact h.own.apart
  · refine ⟨i4.trans h.fr.os, i5.trans h.fr.tape, i6.trans h.fr.output, by rw [i3]; exact h.fr.size, fun b hb' hn => ?_⟩
    obtain ⟨q1, q2⟩ := h.fr.block b hb' hn
    refine ⟨(i2 b (fun e => q2 (e ▸ List.mem_map.2 ⟨B, List.mem_of_getElem? hk, rfl⟩))).trans q1, ?_⟩
    simp only [hbks]; exact q2
  · rw [hbks]
    exact ⟨i4, i5, i6, by rw [i3]; exact Nat.le_refl _, fun b hb' hn => ⟨i2 b (fun e => hn (e ▸ List.mem_map.2 ⟨B, List.mem_of_getElem? hk, rfl⟩)), hn⟩⟩

/-- A set is made. -/
theorem eff_makeSet {t : TypeId} {tt : Nat} (ho : o.op = .makeMap t none) (hd : o.dst = some tt) : Eff P G x o [] (fun y => ∃ b, y = ⟨x.n, (tt, .v (.map (some b))) :: x.env, setB b [] :: x.S⟩) := fun C a w K Q hG h hK => by
  have : (execOp a.eval o).run P w = .ok (.value (.map (some w.heap.size))) (w.alloc (ob mapTag #[])) := by
    unfold execOp
    simp [ho, Instr.makeMap, ob_map, mapOb]
  unfold Oper.wp
  rw [this, Oper.upon_value, hd]
  exact hK _ _ _ ⟨w.heap.size, rfl⟩ (h.newOb (ds := []) (RepL.nil _ _) (by simp) (fun L => .v _)) (Chg.alloc _ _) (Fr.alloc _ _ _)

/-- What lies in a set's block, and where a key stands. -/
theorem set_at {w : World} {L : Nat → Prop} {b : Nat} {ks : List Int} (h : BlkAt w L (setB b ks)) : w.heap[b]? = some (mapOb (ks.map (Value.int .i64)).toArray) := by
  obtain ⟨h0, cur, h1, h2, h3, h4⟩ := h
  have h2 : cur.size = ks.length := h2
  have := keys_cur h2 h4
  subst this
  exact h1

theorem set_key {ks : List Int} {e : MapEntry} (h : e ∈ (Array.mapIdx (fun i k => (⟨k, .agg #[], i⟩ : MapEntry)) (ks.map (Value.int .i64)).toArray).toList) : ∃ k ∈ ks, e.key = .int .i64 k ∧ e.val = .agg #[] := by
 obtain ⟨i, hi, rfl⟩ := List.mem_iff_getElem.1 h
 have hi' : i < ks.length := by simpa using hi
 exact ⟨ks[i], List.getElem_mem hi', by simp, by simp⟩

theorem set_find {ks : List Int} {k : Int} : (k ∉ ks ∧ Instr.findNow (.int .i64) (.int .i64 k) (Array.mapIdx (fun i k => (⟨k, .agg #[], i⟩ : MapEntry)) (ks.map (Value.int .i64)).toArray).toList 0 = some none) ∨
  (k ∈ ks ∧ ∃ i, Instr.findNow (.int .i64) (.int .i64 k) (Array.mapIdx (fun i k => (⟨k, .agg #[], i⟩ : MapEntry)) (ks.map (Value.int .i64)).toArray).toList 0 = some (some (i, .agg #[]))) := by
 rcases MapKept.findNow_spec (d := .int .i64) (k := .int .i64 k) (by simp [MapKept.IsKey]) (Array.mapIdx (fun i k => (⟨k, .agg #[], i⟩ : MapEntry)) (ks.map (Value.int .i64)).toArray).toList 0 (fun e he => by
   obtain ⟨k', _, h1, _⟩ := set_key he
   rw [h1]; simp [MapKept.IsKey]) with ⟨h1, h2⟩ | ⟨j, e, h1, h2, h3⟩
 ·refine .inl ⟨fun hm => ?_, h1⟩
  obtain ⟨i, hi, rfl⟩ := List.mem_iff_getElem.1 hm
  exact h2 ((Array.mapIdx (fun i k => (⟨k, .agg #[], i⟩ : MapEntry)) (ks.map (Value.int .i64)).toArray).toList[i]'(by simpa using hi)) (List.getElem_mem _) (by simp)
 ·obtain ⟨k', hk', q1, q2⟩ := set_key (List.mem_of_getElem? h2)
  rw [h3] at q1
  have : k = k' := by simpa using q1
  subst this
  rw [q2] at h1
  exact .inr ⟨hk', _, h1⟩

/-- Is a key there? -/
theorem still_has {mt kt et : TypeId} {i b : Nat} {ks : List Int} {k : Int} {y z : Operand} (ho : o.op = .lookup mt y z true) (hy : opd x y = .v (.map (some b))) (hz : opd x z = .v (.int .i64 k)) (hk : x.S[i]? = some (setB b ks))
    (hm : P.underlying mt = some (.map kt et)) (hkt : P.underlying kt = some (.int .i64)) (hze : ∀ w, (zeroValue et).run P w = .ok (.agg #[]) w) : Still P G x o (.blk i) (.tup [.v (.agg #[]), .v (.bool (decide (k ∈ ks)))]) := fun C a w _ h => by
  have h1 := set_at (h.blk hk)
  refine ⟨.tuple #[.agg #[], .bool (decide (k ∈ ks))], .tup _ [.agg #[], .bool (decide (k ∈ ks))] rfl (fun j q1 q2 => ?_), fun w' hw => ?_⟩
  · rcases j with _ | _ | j
    · exact .v _
    · exact .v _
    · simp at q1; omega
  · have hh : w'.heap[b]? = _ := (hw _ hk).trans h1
    have hck := MapKept.run_checkKey (P := P) (w := w') (kt := kt) (d := .int .i64) (k := .int .i64 k) hkt (by simp [MapKept.IsKey])
    unfold execOp
    rcases set_find (ks := ks) (k := k) with ⟨n1, n2⟩ | ⟨n1, j, n2⟩
    · have hf := MapKept.run_findKey (P := P) (w := w') hkt n2
      simp only [ho, h.flat hy, h.flat hz, Instr.lookup, Sem.run_bind, run_underlying hm, MapKept.run_getObj_map hh, hck, hf, hze, Result.andThen_ok, Sem.run_pure, n1, decide_false, if_true]
    · have hf := MapKept.run_findKey (P := P) (w := w') hkt n2
      simp only [ho, h.flat hy, h.flat hz, Instr.lookup, Sem.run_bind, run_underlying hm, MapKept.run_getObj_map hh, hck, hf, Result.andThen_ok, Sem.run_pure, n1, decide_true, if_true]

/-- A key comes into a set. -/
theorem eff_addKey {mt kt et : TypeId} {i b : Nat} {ks : List Int} {k : Int} {y z u : Operand} (ho : o.op = .mapUpdate mt y z u) (hd : o.dst = none) (hy : opd x y = .v (.map (some b))) (hz : opd x z = .v (.int .i64 k)) (hu : opd x u = .agg []) (hk : x.S[i]? = some (setB b ks)) (hn : k ∉ ks)
    (hm : P.underlying mt = some (.map kt et)) (hkt : P.underlying kt = some (.int .i64)) : Eff P G x o [b] (fun s => s = ⟨x.n, x.env, x.S.set i (setB b (ks ++ [k]))⟩) := fun C a w K Q hG h hK => by
  have h1 := set_at (h.blk hk)
  have hv : a.eval u = .agg #[] := by
    have := h.eval u
    rw [hu] at this
    generalize a.eval u = v at this
    cases this with
    | agg _ vs hl _ =>
      have : vs = [] := List.eq_nil_of_length_eq_zero (by simpa using hl)
      subst this; rfl
  have hck := MapKept.run_checkKey (P := P) (w := w) (kt := kt) (d := .int .i64) (k := .int .i64 k) hkt (by simp [MapKept.IsKey])
  have hf := (set_find (ks := ks) (k := k)).resolve_right fun q => hn q.1
  have hf' := MapKept.run_findKey (P := P) (w := w) hkt hf.2
  have hpush : Obj.map ((Array.mapIdx (fun i k => (⟨k, .agg #[], i⟩ : MapEntry)) (ks.map (Value.int .i64)).toArray).push ⟨.int .i64 k, .agg #[], (ks.map (Value.int .i64)).toArray.size⟩) ((ks.map (Value.int .i64)).toArray.size + 1) = ob mapTag (((ks ++ [k]).map (Value.int .i64)).toArray) := by
    have e : ((ks ++ [k]).map (Value.int .i64)).toArray = (ks.map (Value.int .i64)).toArray.push (.int .i64 k) := by simp
    rw [e, ob_map, mapOb, Array.mapIdx_push, Array.size_push]
  have hrun : (execOp a.eval o).run P w = .ok .skip { w with heap := w.heap.setIfInBounds b (ob mapTag (((ks ++ [k]).map (Value.int .i64)).toArray)) } := by
    unfold execOp
    simp only [ho, h.flat hy, h.flat hz, hv, Instr.mapUpdate, Sem.run_bind, run_underlying hm, MapKept.run_getObj_map h1, hck, hf', Result.andThen_ok, MapKept.run_setObj_map _ h1, hpush, Sem.run_pure]
  obtain ⟨s1, s2, s3⟩ := h.setOb (B' := setB b (ks ++ [k])) (cur' := ((ks ++ [k]).map (Value.int .i64)).toArray) hk rfl (by simp [setB]) (by simp [setB, keysD]) (fun j hj => by
    have hj' : j < (ks ++ [k]).length := by simpa [setB, keysD] using hj
    refine ⟨.int .i64 (ks ++ [k])[j], by rw [List.getElem?_toArray, List.getElem?_map, List.getElem?_eq_getElem hj']; rfl, ?_⟩
    simp only [setB, keysD, List.getElem_map]
    exact .v _)
  unfold Oper.wp
  rw [hrun, Oper.upon_skip, hd]
  exact hK _ _ _ rfl s1 s2 s3

theorem OD.makeSet {t : TypeId} {tt : Nat} (hw : Wants ops x o true) (ho : o.op = .makeMap t none) (hd : o.dst = some tt) (K : ∀ b, OD P C ops l ⟨x.n, (tt, .v (.map (some b))) :: x.env, setB b [] :: x.S⟩ Q) : OD P C ops (o :: l) x Q :=
 OD.eff hw (eff_makeSet ho hd) fun y ⟨b, hy⟩ => hy ▸ K b

theorem OD.addKey {mt kt et : TypeId} {i b : Nat} {ks : List Int} {k : Int} {y z u : Operand} (hw : Wants ops x o true) (ho : o.op = .mapUpdate mt y z u) (hd : o.dst = none) (hy : opd x y = .v (.map (some b))) (hz : opd x z = .v (.int .i64 k)) (hu : opd x u = .agg []) (hk : x.S[i]? = some (setB b ks)) (hn : k ∉ ks)
  (hm : P.underlying mt = some (.map kt et)) (hkt : P.underlying kt = some (.int .i64)) (K : OD P C ops l ⟨x.n, x.env, x.S.set i (setB b (ks ++ [k]))⟩ Q) : OD P C ops (o :: l) x Q :=
 OD.eff hw (eff_addKey ho hd hy hz hu hk hn hm hkt) fun y hy => hy ▸ K

end Go.Proofs.Ythnobhekodiciaa.V

namespace Go.Proofs.Ythnobhekodiciaa.V
open Go.RowKit
set_option linter.unusedVariables false
set_option linter.unusedSimpArgs false

variable {P : Program} {C : Ctx} {G : List (Nat × List Value)} {Q : Exit → St → Prop} {x : St} {ops : Array Oper} {l : List Oper} {o : Oper} {S1 T : List Nat} {fuel i : Nat} {ld : Array Bool}

theorem still_mlen {mt kt et : TypeId} {i b : Nat} {ks : List Int} {y : Operand} {ts : Array TypeId} (ho : o.op = .call { callee := .builtin .len, args := #[y], argTypes := ts }) (ht : ts = #[mt]) (hy : opd x y = .v (.map (some b))) (hk : x.S[i]? = some (setB b ks))
  (hm : P.underlying mt = some (.map kt et)) : Still P G x o (.blk i) (.v (.int .i64 (ks.length : Nat))) := fun C a w _ h => by
 subst ht
 have h1 := set_at (h.blk hk)
 refine ⟨_, .v _, fun w' hw => ?_⟩
 have hh : w'.heap[b]? = _ := (hw _ hk).trans h1
 have hg := MapKept.run_getObj_map (P := P) hh
 have hu := run_underlying hm w'
 unfold execOp
 simp [ho, resolve, invoke, builtin, Builtin.len_, h.flat hy, hu, hg, goInt, Result.andThen]

/-- Nothing may stand where a list is wanted. -/
def ToL : List D → List D → Prop
  | [], [] => True
  | a :: l, b :: l' => (a = b ∨ ∃ sz, a = .v (.slice none 0 0) ∧ b = .list sz [] 0) ∧ ToL l l'
  | _, _ => False
theorem ToL.rep {w : World} {L : Nat → Prop} : ∀ {a b : List D} {vs : List Value}, ToL a b → RepL w L a vs → RepL w L b vs
 | [], [], _, _, h => h
 | a :: l, b :: l', [], _, h => by simp [RepL] at h
 | a :: l, b :: l', v :: vs, ⟨k, t⟩, h => by
  obtain ⟨h0, h1⟩ := h.tail
  have h2 := ToL.rep t h1
  refine ⟨by have := h2.1; simp [this], fun i q1 q2 => ?_⟩
  cases i with
  | zero =>
   rcases k with rfl | ⟨sz, rfl, rfl⟩
   ·exact h0
   ·show Rep w L (.list sz [] 0) v
    rw [h0.v_eq]; exact .void sz none 0
  | succ i => exact h2.2 i (by simpa using q1) (by simpa using q2)
theorem VC.to {f : FuncId} {args args' : List D} {S : List Blk} {post : D → List Blk → Prop} (h : VC P G f args S post) (k : ToL args' args) : VC P G f args' S post := fun X w vs hp => h X w vs ⟨hp.ex, hp.tab, hp.own, k.rep hp.args⟩

/-- What lies in the first block is told in another way. -/
theorem OD.cover0 {A : Blk} {R : List Blk} {cs' : List D} (hS : x.S = A :: R) (hv : Views [] A.cs cs') (k : OD P C ops l ⟨x.n, x.env, { A with cs := cs' } :: R⟩ Q) : OD P C ops l x Q :=
  OD.cover (Sd := []) (by rw [hS, List.append_nil]) hv k

end Go.Proofs.Ythnobhekodiciaa.V

namespace Go.Proofs.Ythnobhekodiciaa.V
open Go.RowKit
set_option linter.unusedVariables false
set_option linter.unusedSimpArgs false

variable {P : Program} {C : Ctx} {G : List (Nat × List Value)} {Q : Exit → St → Prop} {x : St} {ops : Array Oper} {l : List Oper} {o : Oper} {S1 T : List Nat} {fuel i : Nat} {ld : Array Bool}

theorem Views.append {S : List Blk} : ∀ {a b c d : List D}, Views S a b → Views S c d → Views S (a ++ c) (b ++ d)
 | [], [], _, _, _, h => h
 | _ :: _, _ :: _, _, _, h, k => ⟨h.1, Views.append h.2 k⟩
 | [], _ :: _, _, _, h, _ => h.elim
 | _ :: _, [], _, _, h, _ => h.elim

theorem Views.same {S : List Blk} : ∀ {a : List D}, Views S a a
 | [] => trivial
 | _ :: _ => ⟨view_same, Views.same⟩

/-- A row whose cells are looked at, too. -/
theorem view_rowV {S : List Blk} {sz n cap b e size : Nat} {cs cs' : List D} (hB : (⟨b, e, size, cs⟩ : Blk) ∈ S) (hv : Views S cs cs') (hl : cs'.length = n * sz) (h1 : n ≤ cap) (h2 : cap ≤ maxLen) (hne : isMap e = false := by rfl) : View S (.v (.slice (some ⟨b, 0, none⟩) n cap)) (.list sz cs' n) := fun X Y w v hY hX ho h => by
  rw [h.v_eq]
  obtain ⟨v1, v2⟩ := hv.spec
  obtain ⟨r0, cur, r1, r2, r3, r4⟩ := ho.at_ _ hB
  rw [ob_cells hne] at r1
  refine .list sz cs' n b 0 cap (fun i => cur.getD i undef) hl h1 h2 r0 (fun hy => hX _ (hY _ hy) (List.mem_map.2 ⟨_, hB, rfl⟩)) (fun i hi => ?_) (fun i hi => ?_)
  · obtain ⟨u, hu, _⟩ := r4 i (by show i < cs.length; omega)
    rw [Nat.zero_add, cell_blk r1 hu]
    simp [hu]
  · obtain ⟨u, hu, hq⟩ := r4 i (by show i < cs.length; omega)
    simp only [Array.getD_eq_getD_getElem?, hu, Option.getD_some]
    exact v2 i (by omega) hi X Y w u hY hX ho hq

theorem view_ownV {S Sq : List Blk} {e sz n cap : Nat} {cs cs' : List D} {ad : Option Addr} (h : OwnL e sz cs n ad cap Sq) (hv : Views S cs cs') (hl : cs'.length = n * sz) (hs : ∀ B ∈ Sq, B ∈ S) (hne : isMap e = false := by rfl) : View S (.v (.slice ad n cap)) (.list sz cs' n) := by
 rcases h with ⟨rfl, rfl, rfl, rfl, rfl⟩ | ⟨b, rfl, h1, h2, rfl⟩
 ·have : cs' = [] := by cases cs' with | nil => rfl | cons _ _ => exact hv.elim
  subst this; exact view_nil
 ·exact view_rowV (hne := hne) (hs _ List.mem_cons_self) hv hl h1 h2

theorem perm_r34 {A S1 S2 S3 S4 : List Blk} : (A ++ (S1 ++ (S2 ++ (S3 ++ S4)))).Perm (S3 ++ (A ++ (S1 ++ (S2 ++ S4)))) := perm_cnt fun f => by simp only [List.map_append, List.sum_append]; omega
theorem perm_q34 {A S1 S2 S3 S4 : List Blk} : (S3 ++ (A ++ (S1 ++ (S2 ++ S4)))).Perm (A ++ (S1 ++ (S2 ++ (S3 ++ S4)))) := perm_r34.symm
theorem perm_r44 {A S1 S2 S3 S4 : List Blk} : (A ++ (S1 ++ (S2 ++ (S3 ++ S4)))).Perm (S4 ++ (A ++ (S1 ++ (S2 ++ S3)))) := perm_cnt fun f => by simp only [List.map_append, List.sum_append]; omega
theorem perm_q44 {A S1 S2 S3 S4 : List Blk} : (S4 ++ (A ++ (S1 ++ (S2 ++ S3)))).Perm (A ++ (S1 ++ (S2 ++ (S3 ++ S4)))) := perm_r44.symm
/-! ### Rows in rows: each element has its cells and its blocks -/
inductive RwsI {α : Type} (V : α → List D → List Blk → Prop) : List α → List D → List Blk → Prop
 | nil : RwsI V [] [] []
 | cons {a : α} {c : List D} {Sa : List Blk} {ls : List α} {cs : List D} {S : List Blk} (h : V a c Sa) (t : RwsI V ls cs S) : RwsI V (a :: ls) (c ++ cs) (Sa ++ S)

def Rws {α : Type} (V : α → List D → List Blk → Prop) (ls : List α) (cs : List D) (S : List Blk) : Prop := ∃ S0, RwsI V ls cs S0 ∧ S.Perm S0

variable {α : Type} {V : α → List D → List Blk → Prop}

theorem Rws.nil : Rws V [] [] [] := ⟨[], .nil, .refl _⟩
theorem Rws.perm {ls : List α} {cs : List D} {S S' : List Blk} (h : Rws V ls cs S) (p : S'.Perm S) : Rws V ls cs S' := let ⟨S0, h1, h2⟩ := h; ⟨S0, h1, p.trans h2⟩

theorem RwsI.len {sz : Nat} (hn : ∀ a c Sa, V a c Sa → c.length = sz) {ls : List α} {cs : List D} {S : List Blk} (h : RwsI V ls cs S) : cs.length = ls.length * sz := by
 induction h with
 | nil => simp
 | cons h t ih => rw [List.length_append, hn _ _ _ h, ih, List.length_cons, Nat.succ_mul, Nat.add_comm]

theorem Rws.len {sz : Nat} (hn : ∀ a c Sa, V a c Sa → c.length = sz) {ls : List α} {cs : List D} {S : List Blk} (h : Rws V ls cs S) : cs.length = ls.length * sz := let ⟨_, h1, _⟩ := h; h1.len hn

/-! ### A call that looks at what is owned here, and gives what is its own -/
theorem eff_lookC {f t : Nat} {fo : Operand} {ars : Array Operand} {ts : Array TypeId} {args : List D} {post : D → List Blk → Prop} (ho : o.op = .call { callee := .value fo, args := ars, argTypes := ts }) (hd : o.dst = some t)
  (hf : fo = .func f) (hcall : ∀ args w, (callFunc f args).run P w = .ok (.enter f args) w) (hc : VC P G f args [] post) (hr : ∀ r S', post r S' → flatD r = true ∧ ∀ B ∈ S', ∀ d ∈ B.cs, flatD d = true) (ha : Looks x ars.toList args) :
  Eff P G x o [] (fun y => ∃ r S', post r S' ∧ y = ⟨x.n, (t, r) :: x.env, S' ++ x.S⟩) := fun C a w K Q hG h hK => by
 subst hf
 have hrun : (execOp a.eval o).run P w = .ok (.enter f (ars.toList.map a.eval).toArray) w := by
  unfold execOp
  have e : ars.map a.eval = (ars.toList.map a.eval).toArray := by
   rw [← Array.toList_map, Array.toArray_toList]
  simp only [ho, resolve, Act.eval, Deferred.ofValue, Sem.run_bind, Sem.run_pure, Result.andThen_ok, invoke, e]
  simp [hcall]
 have hpre : Pre G (fun _ => False) w [] args (ars.toList.map a.eval) := by
  refine ⟨fun b hx => hx.elim, fun g hg => ?_, ⟨fun B hB => by simp at hB, by simp [bks]⟩, (Looks.rep h ha).mono fun b _ _ => ⟨rfl, fun hl => by rcases hl with hl | hl; exact hl; simp [bks] at hl⟩⟩
  rw [← hG] at hg
  exact ⟨⟨Nat.lt_of_lt_of_le (h.tab g hg).1.1 h.fr.size, by simp [bks], id⟩, fun i v hi => h.tabAt hg hi⟩
 unfold Oper.wp
 rw [hrun, Oper.upon_enter, hd]
 refine (hc _ w _ hpre).mono fun e w' ⟨v, r, S', h1, h2, h3, h4, h5⟩ => ?_
 subst h1
 obtain ⟨hr1, hr2⟩ := hr r S' h2
 have hb : ∀ b, b < w.heap.size → w'.heap[b]? = w.heap[b]? := fun b hb => (h5.block b hb (by simp [bks])).1
 have hn : ∀ b, b < w.heap.size → b ∉ bks S' := fun b hb => (h5.block b hb (by simp [bks])).2
 have hlive : ∀ b, b < w.heap.size → ¬ live C.X x.S b → ¬ live C.X (S' ++ x.S) b := fun b hb' h0 hl => by
  rcases hl with hl | hl
  ·exact h0 (.inl hl)
  ·rw [bks, List.map_append, List.mem_append] at hl
   rcases hl with hl | hl
   ·exact hn b hb' hl
   ·exact h0 (.inr hl)
 have base : Sim C ⟨x.n, x.env, S' ++ x.S⟩ a w' := by
  refine ⟨h.defers, h.size, fun t ht => (h.env t ht).mono fun b hb' h0 => ⟨hb b hb', hlive b hb' h0⟩, ⟨fun B hB => ?_, ?_⟩, ?_, h.ex, h.tab⟩
  ·rcases List.mem_append.1 hB with hB | hB
   ·obtain ⟨r0, cur, r1, r2, r3, r4⟩ := h3.at_ B hB
    refine ⟨r0, cur, r1, r2, r3, fun i hi => ?_⟩
    obtain ⟨u, hu, hq⟩ := r4 i hi
    exact ⟨u, hu, hq.flat (hr2 B hB _ (List.getElem_mem hi))⟩
   ·obtain ⟨r0, cur, r1, r2, r3, r4⟩ := h.own.at_ B hB
    refine ⟨lt_of_same r0 (hb _ r0), cur, (hb _ r0).trans r1, r2, r3, fun i hi => ?_⟩
    obtain ⟨u, hu, hq⟩ := r4 i hi
    exact ⟨u, hu, hq.mono fun b hb' h0 => ⟨hb b hb', hlive b hb' h0⟩⟩
  ·rw [bks, List.map_append]
   refine List.nodup_append.2 ⟨h3.apart, h.own.apart, fun b hb1 c hc1 e => ?_⟩
   subst e
   obtain ⟨B, hB, rfl⟩ := List.mem_map.1 hc1
   exact hn _ (h.own.at_ B hB).1 hb1
  ·refine ⟨h5.os.trans h.fr.os, h5.tape.trans h.fr.tape, h5.output.trans h.fr.output, Nat.le_trans h.fr.size h5.size, fun b hb' h0 => ⟨(hb b (Nat.lt_of_lt_of_le hb' h.fr.size)).trans (h.fr.block b hb' h0).1, fun hm => ?_⟩⟩
   rw [bks, List.map_append, List.mem_append] at hm
   rcases hm with hm | hm
   ·exact hn b (Nat.lt_of_lt_of_le hb' h.fr.size) hm
   ·exact (h.fr.block b hb' h0).2 hm
 refine hK _ _ _ ⟨r, S', h2, rfl⟩ (base.put (h4.flat hr1)) ⟨h5.size, fun b hb' _ => hb b hb'⟩ ⟨h5.os, h5.tape, h5.output, h5.size, fun b hb' h0 => ⟨hb b hb', fun hm => ?_⟩⟩
 rw [bks, List.map_append, List.mem_append] at hm
 rcases hm with hm | hm
 ·exact hn b hb' hm
 ·exact h0 hm

theorem OD.lookC {f t : Nat} {fo : Operand} {ars : Array Operand} {ts : Array TypeId} {args : List D} {post : D → List Blk → Prop} (hw : Wants ops x o true) (ho : o.op = .call { callee := .value fo, args := ars, argTypes := ts }) (hd : o.dst = some t)
  (hf : fo = .func f) (hcall : ∀ args w, (callFunc f args).run P w = .ok (.enter f args) w) (hc : VC P C.G f args [] post) (hr : ∀ r S', post r S' → flatD r = true ∧ ∀ B ∈ S', ∀ d ∈ B.cs, flatD d = true) (ha : Looks x ars.toList args)
  (K : ∀ r S', post r S' → OD P C ops l ⟨x.n, (t, r) :: x.env, S' ++ x.S⟩ Q) : OD P C ops (o :: l) x Q := OD.eff hw (eff_lookC ho hd hf hcall hc hr ha) fun y ⟨r, S', hp, hy⟩ => hy ▸ K r S' hp

end Go.Proofs.Ythnobhekodiciaa.V

namespace Go.Proofs.Ythnobhekodiciaa.V
open Go.RowKit
set_option linter.unusedVariables false
set_option linter.unusedSimpArgs false

/-! ### Values that hold no yield -/
mutual
def noY : D → Bool
 | .v _ => true
 | .list _ cs _ => noYs cs
 | .iptr cs _ => noYs cs
 | .agg cs => noYs cs
 | .tup cs => noYs cs
 | .clo _ cs => noYs cs
 | .yld _ _ => false
 | .junk => true
def noYs : List D → Bool
 | [] => true
 | d :: r => noY d && noYs r
end

theorem noYs_get : ∀ {cs : List D}, noYs cs = true → ∀ i (h : i < cs.length), noY cs[i] = true
 | [], _, _, h => by cases h
 | d :: r, hn, 0, _ => by rw [noYs, Bool.and_eq_true] at hn; exact hn.1
 | d :: r, hn, i + 1, h => by rw [noYs, Bool.and_eq_true] at hn; exact noYs_get hn.2 i (by simpa using h)
theorem noY_look {l : List (Nat × D)} (h : (l.all fun p => noY p.2) = true) (t : Nat) : noY (look t l) = true := by
 induction l with
 | nil => rfl
 | cons p l ih =>
  obtain ⟨i, d⟩ := p
  rw [List.all_cons, Bool.and_eq_true] at h
  rw [look_cons]; split
  ·exact h.1
  ·exact ih h.2

/-- A value reads the same, where only objects have turned that hold no cells. -/
theorem Rep.monoX {w w' : World} {L L' : Nat → Prop} {Z : Nat → Prop} {d : D} {v : Value} (h : Rep w L d v) (hn : noY d = true) (H : ∀ b, b < w.heap.size → ¬ L b → ¬ Z b → w'.heap[b]? = w.heap[b]? ∧ ¬ L' b)
    (hZ : ∀ b o, Z b → w.cell? ⟨b, o, none⟩ = none) (hs : w.heap.size ≤ w'.heap.size) (hZL : ∀ b, b < w.heap.size → ¬ L b → Z b → ¬ L' b) : Rep w' L' d v := by
  induction h with
  | v x => exact .v x
  | void sz ad cap => exact .void sz ad cap
  | list sz cs len b o cap f hl h1 h2 hb hL hc hr ih =>
    rw [noY] at hn
    by_cases hz : Z b
    · have : ¬ 0 < cs.length := fun h0 => by have := hc 0 h0; rw [hZ _ _ hz] at this; cases this
      exact .list sz cs len b o cap f hl h1 h2 (by omega) (hZL b hb hL hz) (fun i hi => by omega) (fun i hi => by omega)
    · have hh := H b hb hL hz
      exact .list sz cs len b o cap f hl h1 h2 (lt_of_same hb hh.1) hh.2 (fun i hi => (World.cell?_of_block (w := w) (a := ⟨b, o + i, none⟩) hh.1).trans (hc i hi)) (fun i hi => ih i hi (noYs_get hn i hi))
  | iptr cs off b o f hb hL hc hr ih =>
    rw [noY] at hn
    by_cases hz : Z b
    · have : ¬ 0 < cs.length := fun h0 => by have := hc 0 h0; rw [hZ _ _ hz] at this; cases this
      exact .iptr cs off b o f (by omega) (hZL b hb hL hz) (fun i hi => by omega) (fun i hi => by omega)
    · have hh := H b hb hL hz
      exact .iptr cs off b o f (lt_of_same hb hh.1) hh.2 (fun i hi => (World.cell?_of_block (w := w) (a := ⟨b, o + i, none⟩) hh.1).trans (hc i hi)) (fun i hi => ih i hi (noYs_get hn i hi))
  | agg cs vs hl hr ih => rw [noY] at hn; exact .agg cs vs hl fun i h h' => ih i h h' (noYs_get hn i h)
  | tup cs vs hl hr ih => rw [noY] at hn; exact .tup cs vs hl fun i h h' => ih i h h' (noYs_get hn i h)
  | clo fn cs vs hl hr ih => rw [noY] at hn; exact .clo fn cs vs hl fun i h h' => ih i h h' (noYs_get hn i h)
  | yld l os h => rw [noY] at hn; cases hn
  | junk x => exact .junk x

theorem RepL.monoX {w w' : World} {L L' : Nat → Prop} {Z : Nat → Prop} {ds : List D} {vs : List Value} (h : RepL w L ds vs) (hn : noYs ds = true) (H : ∀ b, b < w.heap.size → ¬ L b → ¬ Z b → w'.heap[b]? = w.heap[b]? ∧ ¬ L' b)
  (hZ : ∀ b o, Z b → w.cell? ⟨b, o, none⟩ = none) (hs : w.heap.size ≤ w'.heap.size) (hZL : ∀ b, b < w.heap.size → ¬ L b → Z b → ¬ L' b) : RepL w' L' ds vs :=
 ⟨h.1, fun i h1 h2 => (h.2 i h1 h2).monoX (noYs_get hn i h1) H hZ hs hZL⟩

theorem Own.monoX {w w' : World} {L : Nat → Prop} {Z : Nat → Prop} {S : List Blk} (h : Own w L S) (hS : ∀ B ∈ S, L B.b) (hn : ∀ B ∈ S, noYs B.cs = true) (H : ∀ b, b < w.heap.size → ¬ Z b → w'.heap[b]? = w.heap[b]?)
  (hZ : ∀ b o, Z b → w.cell? ⟨b, o, none⟩ = none) (hs : w.heap.size ≤ w'.heap.size) (hZS : ∀ B ∈ S, ¬ Z B.b) : Own w' L S :=
 ⟨fun B hB => by
  obtain ⟨r0, cur, r1, r2, r3, r4⟩ := h.at_ B hB
  refine ⟨by omega, cur, (H _ r0 (hZS B hB)).trans r1, r2, r3, fun i hi => ?_⟩
  obtain ⟨u, hu, hq⟩ := r4 i hi
  exact ⟨u, hu, hq.monoX (noYs_get (hn B hB) i hi) (fun b hb hl hz => ⟨H b hb hz, hl⟩) hZ hs (fun b _ hl _ => hl)⟩, h.apart⟩

theorem cell_odd {w : World} {b : Nat} {o : Obj} (h : w.heap[b]? = some o) (ho : o.isCells = false) (i : Nat) : w.cell? ⟨b, i, none⟩ = none := by
 cases hc : w.cell? ⟨b, i, none⟩ with
 | none => rfl
 | some v =>
  obtain ⟨o', h1, h2⟩ := cells_of_cell hc
  have h1 : w.heap[b]? = some o' := h1
  rw [h] at h1; cases h1; rw [ho] at h2; cases h2

/-! ### What a loop owes its iterator -/
/-- Nothing turned but one's own blocks and the loop's own object. -/
structure FrX (l : Nat) (w : World) (S : List Nat) (w' : World) (S' : List Nat) : Prop where
  os : w'.os = w.os
  tape : w'.tape = w.tape
  output : w'.output = w.output
  size : w.heap.size ≤ w'.heap.size
  block : ∀ b, b < w.heap.size → b ∉ S → (b ≠ l → w'.heap[b]? = w.heap[b]?) ∧ b ∉ S'

structure Ytr (α : Type) where
 l : Nat
 os : List (Nat × Obj)
 od : List (Nat × Obj)
 enc : α → List D
 J : List α → List Blk → Prop
 Jx : List α → List Blk → Prop
 N : Nat

def rawAt (W : World) (L : Nat → Prop) (os : List (Nat × Obj)) : Prop := ∀ z ∈ os, z.1 < W.heap.size ∧ ¬ L z.1 ∧ W.heap[z.1]? = some z.2

/-- A round, whatever has come before. -/
def YOk {α : Type} (P : Program) (X0 : Nat → Prop) (w0 : World) (S0 : List Nat) (Y : Ytr α) : Prop :=
  ∀ (pre : List α) (y : α) (Sc : List Blk) (X : Nat → Prop) (W : World) (vs : List Value),
    Y.J pre Sc → pre.length < Y.N → (∀ b, X b → b < W.heap.size ∧ b ∉ bks Sc) → (∀ b, X0 b → X b) → (∀ b, X b → X0 b ∨ w0.heap.size ≤ b ∨ b ∈ S0) →
    Own W (live X Sc) Sc → RepL W (live X Sc) (Y.enc y) vs → Fr w0 S0 W (bks Sc) → rawAt W (live X Sc) Y.os →
    ∃ fn tmps assign body, (Instr.yield Y.l vs.toArray).run P W = .ok (.round Y.l fn tmps assign body) W ∧
      RoundIn Fence.wide 0 P Y.l fn tmps assign body W (fun e W' => ∃ b Sc', e = .returned (.bool b) ∧ Own W' (live X Sc') Sc' ∧ FrX Y.l W (bks Sc) W' (bks Sc') ∧
        (b = true → Y.J (pre ++ [y]) Sc' ∧ W'.heap[Y.l]? = W.heap[Y.l]?) ∧ (b = false → Y.Jx (pre ++ [y]) Sc' ∧ rawAt W' (live X Sc') Y.od))

def TabAt (G : List (Nat × List Value)) (w0 : World) (S0 : List Nat) (X0 : Nat → Prop) : Prop := ∀ g ∈ G, (g.1 < w0.heap.size ∧ g.1 ∉ S0 ∧ ¬ X0 g.1) ∧ ∀ i v, g.2[i]? = some v → tabCell w0 g.1 i v

/-- An iterator's contract. -/
def VI {α : Type} (P : Program) (G : List (Nat × List Value)) (gf : FuncId) (caps : List D) (enc : α → List D) (Sa Sp : List α → Prop) (N : Nat) : Prop :=
  ∀ (Y : Ytr α) (X0 : Nat → Prop) (w0 W : World) (S0 : List Nat) (Sc : List Blk) (cv : List Value), Y.enc = enc → Y.N = N →
    (∀ b, X0 b → b < w0.heap.size ∧ b ∉ S0) → TabAt G w0 S0 X0 → w0.heap.size ≤ Y.l → Own W (live X0 Sc) Sc → RepL W (live X0 Sc) caps cv → Fr w0 S0 W (bks Sc) →
    rawAt W (live X0 Sc) Y.os → Y.J [] Sc → YOk P X0 w0 S0 Y →
    Calls P gf (#[.func (.yield Y.l) #[] #[]] ++ cv.toArray) W fun e W' => ∃ v Sc', e = .returned v ∧ Own W' (live X0 Sc') Sc' ∧ Fr w0 S0 W' (bks Sc') ∧
      ((∃ xs, Sa xs ∧ Y.J xs Sc' ∧ rawAt W' (live X0 Sc') Y.os) ∨ (∃ pre, Sp pre ∧ Y.Jx pre Sc' ∧ rawAt W' (live X0 Sc') Y.od))

variable {P : Program} {C : Ctx} {G : List (Nat × List Value)} {Q : Exit → St → Prop} {x : St} {ops : Array Oper} {o : Oper} {fuel i : Nat} {ld : Array Bool} {α : Type}

/-- The iterator's end. -/
def BodyY (P : Program) (fn : Func) (Y : Ytr α) (Sa Sp : List α → Prop) (e : Exit) (y : St) : Prop :=
  (e = .normal ∨ e = .ret) ∧ (∃ r, Ret P fn y r) ∧ 0 < y.n ∧ ∃ Sc', Sc'.Sublist y.S ∧ ((∃ xs, Sa xs ∧ Y.J xs Sc' ∧ look 0 y.env = .yld Y.l Y.os) ∨ (∃ pre, Sp pre ∧ Y.Jx pre Sc' ∧ look 0 y.env = .yld Y.l Y.od))
theorem VI.body {gf : FuncId} {fn : Func} {c : Code} {n : Nat} {caps : List D} {enc : α → List D} {Sa Sp : List α → Prop} {N : Nat} (hf : P.funcs[gf]? = some fn) (hb : fn.body = some c) (hn : fn.ntmps = n) (hl : 1 + caps.length ≤ n)
  (h : ∀ (Y : Ytr α) X0 w0 S0 Sc, Y.enc = enc → Y.N = N → w0.heap.size ≤ Y.l → YOk P X0 w0 S0 Y → Y.J [] Sc → CD P ⟨X0, w0, S0, G, [], fun _ _ => False⟩ c ⟨n, envOf 0 (.yld Y.l Y.os :: caps), Sc⟩ (BodyY P fn Y Sa Sp)) : VI P G gf caps enc Sa Sp N := fun Y X0 w0 W S0 Sc cv he hN hex htab hlt hown hrep hfr hraw hJ hY => by
 let C : Ctx := ⟨X0, w0, S0, G, [], fun _ _ => False⟩
 have hall : RepL W (live X0 Sc) (.yld Y.l Y.os :: caps) (.func (.yield Y.l) #[] #[] :: cv) := .cons (.yld _ _ hraw) hrep
 have harr : #[Value.func (.yield Y.l) #[] #[]] ++ cv.toArray = (Value.func (.yield Y.l) #[] #[] :: cv).toArray := by simp
 rw [harr]
 generalize hvs : Value.func (.yield Y.l) #[] #[] :: cv = vs at hall
 generalize hds : D.yld Y.l Y.os :: caps = args at hall
 have hal : args.length ≤ n := by rw [← hds]; simp; omega
 have hvl : vs.length = args.length := hall.1
 have hsim : Sim C ⟨n, envOf 0 args, Sc⟩ { tmps := vs.toArray ++ Array.replicate (fn.ntmps - vs.toArray.size) undef, defers := [] } W := by
  refine ⟨rfl, by simp [hn]; omega, fun t ht => ?_, hown, hfr, hex, htab⟩
  simp only [look_envOf, Nat.zero_le, if_true, Nat.sub_zero]
  by_cases hlt : t < args.length
  ·have e1 : args.getD t .junk = args[t] := by simp [List.getD, hlt]
   have e2 : (vs.toArray ++ Array.replicate (fn.ntmps - vs.toArray.size) undef).getD t undef = vs[t]'(by omega) := by
    rw [Array.getD_eq_getD_getElem?, Array.getElem?_append_left (by simp; omega)]
    simp [show t < vs.length by omega]
   rw [e1, e2]
   exact hall.2 t hlt (by omega)
  ·have e1 : args.getD t .junk = .junk := by simp [List.getD, List.getElem?_eq_none (show args.length ≤ t by omega)]
   rw [e1]; exact .junk _
 rw [← hds] at hsim
 refine calls_of_wp hf hb (wp_mono (h Y X0 w0 S0 Sc he hN hlt hY hJ _ _ hsim) fun e a w' hq => ?_)
 rcases hq with ⟨y, h1, h2, ⟨r, h3⟩, h0, Sc', h4, h5⟩ | ⟨_, hq⟩
 case inr => exact hq.elim
 obtain ⟨v, q1, q2⟩ := h3 C a w' h1
 have hsub : (bks Sc').Sublist (bks y.S) := List.Sublist.map _ h4
 have raw : ∀ os, look 0 y.env = .yld Y.l os → rawAt w' (live X0 Sc') os := fun os ho => by
  have hv := h1.env 0 h0
  rw [ho] at hv
  generalize a.tmps.getD 0 undef = u at hv
  cases hv with
  | yld _ _ hz => exact fun z hz' => by obtain ⟨z1, z2, z3⟩ := hz z hz'; exact ⟨z1, fun hl => z2 (hl.imp id fun q => hsub.subset q), z3⟩
 have key : a.defers = [] ∧ ∃ v, (results fn a.tmps).run P w' = .ok v w' ∧ ∃ v' Sc', Ending.returned v = .returned v' ∧ Own w' (live X0 Sc') Sc' ∧ Fr w0 S0 w' (bks Sc') ∧ ((∃ xs, Sa xs ∧ Y.J xs Sc' ∧ rawAt w' (live X0 Sc') Y.os) ∨ (∃ pre, Sp pre ∧ Y.Jx pre Sc' ∧ rawAt w' (live X0 Sc') Y.od)) :=
  ⟨h1.defers, v, q2, v, Sc', rfl, h1.own.sub h4, ⟨h1.fr.os, h1.fr.tape, h1.fr.output, h1.fr.size, fun b hb' hn => ⟨(h1.fr.block b hb' hn).1, fun q => (h1.fr.block b hb' hn).2 (hsub.subset q)⟩⟩,
   h5.imp (fun ⟨xs, s1, s2, s3⟩ => ⟨xs, s1, s2, raw _ s3⟩) (fun ⟨pre, s1, s2, s3⟩ => ⟨pre, s1, s2, raw _ s3⟩)⟩
 rcases h2 with rfl | rfl <;> exact key

/-! ### A region in which yield is called -/
def AI (P : Program) (C : Ctx) (ops : Array Oper) (fuel : Nat) (ld : Array Bool) (x : St) (Q : Exit → St → Prop) : Prop :=
 ∀ a w, Sim C x a w → wpAnyIn Fence.wide 0 P .any ops (LQ C Q) fuel ld a w
def AIs (P : Program) (C : Ctx) (ops : Array Oper) (fuel : Nat) (ld : Array Bool) (x : St) (Q : Exit → St → Prop) (i : Nat) : Prop :=
 ∀ a w, Sim C x a w → wpOpIn Fence.wide 0 P ops (LQ C Q) i (wpAnyIn Fence.wide 0 P .any ops (LQ C Q) fuel (ld.setIfInBounds i true)) a w

theorem Sim.drew {a : Act} {w : World} (hs : Sim C x a w) : Sim C x a { w with drawn := w.drawn + 1 } :=
 ⟨hs.defers, hs.size, fun t ht => (hs.env t ht).mono fun b _ hn => ⟨rfl, hn⟩, ⟨fun B hB => by
  obtain ⟨r0, cur, r1, r2, r3, r4⟩ := hs.own.at_ B hB
  exact ⟨r0, cur, r1, r2, r3, fun i hi => by
   obtain ⟨u, hu, hq⟩ := r4 i hi
   exact ⟨u, hu, hq.mono fun b _ hn => ⟨rfl, hn⟩⟩⟩, hs.own.apart⟩, ⟨hs.fr.os, hs.fr.tape, hs.fr.output, hs.fr.size, hs.fr.block⟩, hs.ex, hs.tab⟩

theorem AI.all {rs : List Nat} (hr : Region.ready .any ops ld = rs) (hne : rs ≠ []) (h : ∀ i ∈ rs, AIs P C ops fuel ld x Q i) : AI P C ops (fuel + 1) ld x Q := fun a w hs => wpAnyIn_all hr hne fun i hi => h i hi a w hs
theorem AI.one (hr : Region.ready .any ops ld = [i]) (h : AIs P C ops fuel ld x Q i) : AI P C ops (fuel + 1) ld x Q := AI.all hr (by simp) fun j hj => by rw [List.mem_singleton] at hj; subst hj; exact h
theorem AI.two {j : Nat} (hr : Region.ready .any ops ld = [i, j]) (h : AIs P C ops fuel ld x Q i) (h' : AIs P C ops fuel ld x Q j) : AI P C ops (fuel + 1) ld x Q := AI.all hr (by simp) fun k hk => by
 rcases List.mem_cons.1 hk with rfl | hk
 ·exact h
 ·rw [List.mem_singleton] at hk; subst hk; exact h'
theorem AI.done (hr : Region.ready .any ops ld = []) (h : Q .normal x) : AI P C ops fuel ld x Q := fun a w hs => wpAnyIn_done hr (.inl ⟨x, hs, h⟩) _
theorem AI.wk {y : St} (h : Wk x y) (k : AI P C ops fuel ld y Q) : AI P C ops fuel ld x Q := fun a w hs => k a w (h C a w hs)
theorem AI.perm {S' : List Blk} (hp : x.S.Perm S') (k : AI P C ops fuel ld ⟨x.n, x.env, S'⟩ Q) : AI P C ops fuel ld x Q := AI.wk (Wk.perm hp) k
theorem AI.take {t : Nat} {d : D} (hi : ops[i]? = some o) (hs : Region.noSelect ops = true) (hf : Region.free .any ops ld i = true) (hr : (Region.ready .any ops ld).contains i = true) (hp : NP Q)
  (hw : Wants ops x o true) (hab : ∀ w a, o.about P w a = none) (hd : o.dst = some t) (h : Still P C.G x o .none d) (K : AI P C ops fuel (ld.setIfInBounds i true) (x.put t d) Q) : AI P C ops (fuel + 1) ld x Q := fun a w hsim => by
 obtain ⟨v, h1, h2⟩ := h C a w rfl hsim
 refine wpAnyIn_take (oi := o) (v := v) rfl hi hs hf hr (hQ_of hp _ v) ⟨.inl ⟨hw C a w hsim, fun w' => h2 w' trivial⟩, fun w' => hab w' _⟩ ?_
 rw [hd]; exact K _ _ (hsim.put h1)

/-- What holds of an operation holds of it within a fence that lets all in. -/
theorem oper_in {K : Act → World → Prop} {Q : Exit → Act → World → Prop} {a : Act} {w : World} (ro : Option Nat) (hd : ∀ c, o.op ≠ .defer c) (h : o.wp P a w K Q) : o.wpIn { Fence.wide with round := ro } 0 P a w K Q := by
  refine ⟨fun _ _ => trivial, ?_⟩
  rw [Oper.semAt_eq _ _ _ hd]
  unfold Oper.wp at h
  generalize (execOp a.eval o).run P w = r at h
  have hst : ∀ m m', Steps P m m' → StepsIn (Machine.fenced P { Fence.wide with round := ro }) P m m' := fun m m' hs => stepsIn_wide.2 hs
  match r, h with
  | .ok (.value v) w', h => exact h
  | .ok .skip w', h => exact h
  | .ok (.defer d) w', h => exact h
  | .ok (.enter f args) w', h => exact ⟨fun hc => (by cases hc), ((callsIn_wide (n := 0)).2 h : CallsIn Fence.wide 0 P f args w' _)⟩
  | .ok (.row row args) w', h => exact ⟨fun hc => (by cases hc), fun c cs _ => let ⟨v, w'', r, s⟩ := h c cs; ⟨v, w'', r, hst _ _ s⟩⟩
  | .halt (.panic v) w', h => exact h

theorem AIs.eff {W : List Nat} {post : St → Prop} (hi : ops[i]? = some o) (hw : Wants ops x o true) (hdf : ∀ c, o.op ≠ .defer c) (h : Eff P C.G x o W post) (k : ∀ y, post y → AI P C ops fuel (ld.setIfInBounds i true) y Q) : AIs P C ops fuel ld x Q i := fun a w hsim => by
 unfold wpOpIn
 simp only [hi, hw C a w hsim, if_true]
 exact oper_in none hdf (h C a w _ _ rfl hsim fun y a' w' hp hs' _ _ => k y hp a' w' hs')
theorem AIs.still {t : Nat} {kd : Rd} {d : D} (hi : ops[i]? = some o) (hw : Wants ops x o true) (hdf : ∀ c, o.op ≠ .defer c) (hd : o.dst = some t) (h : Still P C.G x o kd d) (k : AI P C ops fuel (ld.setIfInBounds i true) (x.put t d) Q) : AIs P C ops fuel ld x Q i :=
 AIs.eff hi hw hdf (h.eff hd) fun y hy => by subst hy; exact k
theorem AIs.callP {f t : Nat} {fo : Operand} {ars : Array Operand} {ts : Array TypeId} {args : List D} {r : D} (hi : ops[i]? = some o) (hw : Wants ops x o true) (ho : o.op = .call { callee := .value fo, args := ars, argTypes := ts }) (hd : o.dst = some t)
  (hf : fo = .func f) (hcall : ∀ args w, (callFunc f args).run P w = .ok (.enter f args) w) (hc : VP P C.G f args r) (ha : Opds x ars.toList args)
  (K : AI P C ops fuel (ld.setIfInBounds i true) (x.put t r) Q) : AIs P C ops fuel ld x Q i :=
 AIs.eff hi hw (fun c hc => by rw [ho] at hc; cases hc) (eff_call ho hd hf hcall ha.eq (perm_none _) hc) fun y ⟨r', S', ⟨h1, h2⟩, hy⟩ => by subst h1 h2 hy; exact K

/-- What a call gives back, where its blocks have turned. -/
theorem Sim.back {a : Act} {w w' : World} (h : Sim C x a w) {Sf R S' : List Blk} (hp : x.S.Perm (Sf ++ R)) (h3 : Own w' (live (fun b => C.X b ∨ b ∈ bks R) S') S') (h5 : Fr w (bks Sf) w' (bks S')) : Sim C ⟨x.n, x.env, S' ++ R⟩ a w' := by
  have hb : (bks x.S).Perm (bks Sf ++ bks R) := by have := hp.map Blk.b; simpa [bks] using this
  have hL := live_perm (X := C.X) hp
  have hnd : (bks Sf ++ bks R).Nodup := hb.nodup_iff.1 h.own.apart
  obtain ⟨n1, n2, n3⟩ := List.nodup_append.1 hnd
  have hRlt : ∀ b, b ∈ bks R → b < w.heap.size := fun b hbm => by
    obtain ⟨B, hB, rfl⟩ := List.mem_map.1 hbm
    exact (h.own.at_ B (hp.symm.subset (List.mem_append_right _ hB))).1
  have hL' : live C.X (S' ++ R) = live (fun b => C.X b ∨ b ∈ bks R) S' := live_perm (List.Perm.refl _)
  have H : ∀ b, b < w.heap.size → ¬ live C.X x.S b → w'.heap[b]? = w.heap[b]? ∧ ¬ live C.X (S' ++ R) b := fun b hlt hn => by
    rw [hL] at hn
    have hnSf : b ∉ bks Sf := fun hm => hn (.inr hm)
    obtain ⟨q1, q2⟩ := h5.block b hlt hnSf
    refine ⟨q1, fun hl => ?_⟩
    rw [hL'] at hl
    rcases hl with hl | hl
    · exact hn (.inl hl)
    · exact q2 hl
  refine ⟨h.defers, h.size, fun t ht => (h.env t ht).mono H, ⟨fun B hB => ?_, ?_⟩, ?_, h.ex, h.tab⟩
  · rcases List.mem_append.1 hB with hB | hB
    · have := h3.at_ B hB
      rw [← hL'] at this; exact this
    · obtain ⟨r0, cur, r1, r2, r3, r4⟩ := h.own.at_ B (hp.symm.subset (List.mem_append_right _ hB))
      have hBm : B.b ∈ bks R := List.mem_map.2 ⟨B, hB, rfl⟩
      have hnSf : B.b ∉ bks Sf := fun hm => n3 B.b hm B.b hBm rfl
      have hh := (h5.block B.b r0 hnSf).1
      refine ⟨lt_of_same r0 hh, cur, hh.trans r1, r2, r3, fun i hi => ?_⟩
      obtain ⟨u, hu, hq⟩ := r4 i hi
      exact ⟨u, hu, hq.mono H⟩
  · show (bks (S' ++ R)).Nodup
    have : bks (S' ++ R) = bks S' ++ bks R := by simp [bks]
    rw [this]
    refine List.nodup_append.2 ⟨h3.apart, n2, fun b hb1 c hc1 he => ?_⟩
    subst he
    have hnSf : b ∉ bks Sf := fun hm => n3 b hm b hc1 rfl
    exact (h5.block b (hRlt b hc1) hnSf).2 hb1
  · refine ⟨h5.os.trans h.fr.os, h5.tape.trans h.fr.tape, h5.output.trans h.fr.output, Nat.le_trans h.fr.size h5.size, fun b hb' hn => ?_⟩
    obtain ⟨q1, q2⟩ := h.fr.block b hb' hn
    have hn1 : b ∉ bks Sf := fun hm => q2 (hb.symm.subset (List.mem_append_left _ hm))
    have hn2 : b ∉ bks R := fun hm => q2 (hb.symm.subset (List.mem_append_right _ hm))
    obtain ⟨q3, q4⟩ := h5.block b (Nat.lt_of_lt_of_le hb' h.fr.size) hn1
    refine ⟨q3.trans q1, fun hm => ?_⟩
    have : bks (S' ++ R) = bks S' ++ bks R := by simp [bks]
    rw [this] at hm
    rcases List.mem_append.1 hm with hm | hm
    · exact q4 hm
    · exact hn2 hm

/-- Yield is called. -/
theorem AIs.yield {t : Nat} {fo : Operand} {ars : Array Operand} {ts : Array TypeId} {Y : Ytr α} {pre : List α} {y : α} {Sc R : List Blk} (hi : ops[i]? = some o) (hw : Wants ops x o true) (ho : o.op = .call { callee := .value fo, args := ars, argTypes := ts }) (hd : o.dst = some t)
    (hf : opd x fo = .yld Y.l Y.os) (hn : 0 < x.n) (hz : look 0 x.env = .yld Y.l Y.os) (ha : ars.toList.map (opd x) = Y.enc y) (hp : x.S.Perm (Sc ++ R)) (hJ : Y.J pre Sc) (hN : pre.length < Y.N) (hY : YOk P C.X C.w0 C.S0 Y) (hl : C.w0.heap.size ≤ Y.l) (h0t : t ≠ 0)
    (kT : ∀ Sc', Y.J (pre ++ [y]) Sc' → AI P C ops fuel (ld.setIfInBounds i true) ⟨x.n, (t, .v (.bool true)) :: x.env, Sc' ++ R⟩ Q)
    (kF : ∀ Sc', Y.Jx (pre ++ [y]) Sc' → AI P C ops fuel (ld.setIfInBounds i true) ⟨x.n, [(t, .v (.bool false)), (0, .yld Y.l Y.od)], Sc'⟩ Q) : AIs P C ops fuel ld x Q i := fun a w h => by
  have hb : (bks x.S).Perm (bks Sc ++ bks R) := by have := hp.map Blk.b; simpa [bks] using this
  have hL := live_perm (X := C.X) hp
  have hnd : (bks Sc ++ bks R).Nodup := hb.nodup_iff.1 h.own.apart
  obtain ⟨n1, n2, n3⟩ := List.nodup_append.1 hnd
  have hRlt : ∀ b, b ∈ bks R → b < w.heap.size := fun b hbm => by
    obtain ⟨B, hB, rfl⟩ := List.mem_map.1 hbm
    exact (h.own.at_ B (hp.symm.subset (List.mem_append_right _ hB))).1
  have yv : ∀ (o' : Operand) os, opd x o' = .yld Y.l os → a.eval o' = .func (.yield Y.l) #[] #[] ∧ rawAt w (live C.X x.S) os := fun o' os he => by
    have hv := h.eval o'
    rw [he] at hv
    generalize a.eval o' = u at hv
    cases hv with
    | yld _ _ hz => exact ⟨rfl, hz⟩
  obtain ⟨e1, hraw⟩ := yv fo _ hf
  have hrep : RepL w (live C.X x.S) (Y.enc y) (ars.toList.map a.eval) := ha ▸ RepL.opds h ars.toList
  have e0 : a.tmps.getD 0 undef = .func (.yield Y.l) #[] #[] := by
    have hv := h.env 0 hn
    rw [hz] at hv
    generalize a.tmps.getD 0 undef = u at hv
    cases hv with
    | yld _ _ _ => rfl
  rw [hL] at hraw hrep
  obtain ⟨fn, tmps, assign, body, hy, hro⟩ := hY pre y Sc (fun b => C.X b ∨ b ∈ bks R) w _ hJ hN (fun b hx => by
      rcases hx with hx | hx
      · obtain ⟨q1, q2⟩ := h.ex b hx
        exact ⟨Nat.lt_of_lt_of_le q1 h.fr.size, fun hm => (h.fr.block b q1 q2).2 (hb.symm.subset (List.mem_append_left _ hm))⟩
      · exact ⟨hRlt b hx, fun hm => n3 b hm b hx rfl⟩) (fun b hx => .inl hx) (fun b hx => by
      rcases hx with hx | hx
      · exact .inl hx
      · rcases Nat.lt_or_ge b C.w0.heap.size with hlt | hge
        · by_cases hs0 : b ∈ C.S0
          · exact .inr (.inr hs0)
          · exact absurd (hb.symm.subset (List.mem_append_right _ hx)) (h.fr.block b hlt hs0).2
        · exact .inr (.inl hge))
    ⟨fun B hB => by rw [← hL]; exact h.own.at_ B (hp.symm.subset (List.mem_append_left _ hB)), n1⟩ hrep
    ⟨h.fr.os, h.fr.tape, h.fr.output, h.fr.size, fun b hb' hn' => ⟨(h.fr.block b hb' hn').1, fun hm => (h.fr.block b hb' hn').2 (hb.symm.subset (List.mem_append_left _ hm))⟩⟩ hraw
  have hrun : (execOp a.eval o).run P w = .ok (.round Y.l fn tmps assign body) w := by
    unfold execOp
    have e : ars.map a.eval = (ars.toList.map a.eval).toArray := by
      rw [← Array.toList_map, Array.toArray_toList]
    simp only [ho, resolve, e1, Deferred.ofValue, Sem.run_bind, Sem.run_pure, Result.andThen_ok, invoke, e, Array.empty_append]
    exact hy
  unfold wpOpIn
  simp only [hi, hw C a w h, if_true]
  refine ⟨fun _ _ => trivial, ?_⟩
  show o.uponIn Fence.wide 0 P a _ _ ((o.semAt none a.eval).run P w)
  rw [Oper.semAt_none, hrun, Oper.uponIn_round]
  refine ⟨fun hc => (by cases hc), hro.mono fun e w' ⟨b, Sc', he, h3, h5, hT, hF⟩ => ?_⟩
  subst he
  show wpAnyIn Fence.wide 0 P .any ops (LQ C Q) fuel (ld.setIfInBounds i true) (a.put o.dst (.bool b)) w'
  rw [hd]
  have hl0 : ∀ q, q < C.w0.heap.size → q ≠ Y.l := fun q hq e => by omega
  cases b with
  | true =>
    obtain ⟨j1, j2⟩ := hT rfl
    have hfr' : Fr w (bks Sc) w' (bks Sc') := ⟨h5.os, h5.tape, h5.output, h5.size, fun q hq hnq => by
      obtain ⟨p1, p2⟩ := h5.block q hq hnq
      refine ⟨?_, p2⟩
      by_cases e : q = Y.l
      · rw [e]; exact j2
      · exact p1 e⟩
    exact kT Sc' j1 _ _ ((h.back hp h3 hfr').put (.v _))
  | false =>
    obtain ⟨j1, j2⟩ := hF rfl
    have hlive : ∀ q, live C.X Sc' q → live (fun b => C.X b ∨ b ∈ bks R) Sc' q := fun q hq => hq.imp .inl id
    have hown' : Own w' (live C.X Sc') Sc' := ⟨fun B hB => by
      obtain ⟨r0, cur, r1, r2, r3, r4⟩ := h3.at_ B hB
      exact ⟨r0, cur, r1, r2, r3, fun q hq => by
        obtain ⟨u, hu, hh⟩ := r4 q hq
        exact ⟨u, hu, hh.mono fun b _ hn => ⟨rfl, fun hl => hn (hlive b hl)⟩⟩⟩, h3.apart⟩
    refine kF Sc' j1 _ _ ⟨h.defers, by simp [Act.put, h.size], fun q hq => ?_, hown', ⟨h5.os.trans h.fr.os, h5.tape.trans h.fr.tape, h5.output.trans h.fr.output, Nat.le_trans h.fr.size h5.size, fun q hq hnq => ?_⟩, h.ex, h.tab⟩
    · have hsz := h.size
      simp only [look_cons, Act.put]
      by_cases e : t = q
      · subst e
        rw [if_pos rfl]
        have : (a.tmps.setIfInBounds t (.bool false)).getD t undef = .bool false := by
          have hq : t < x.n := hq
          simp [Array.getElem?_setIfInBounds, hsz, hq]
        rw [this]; exact .v _
      · rw [if_neg e]
        by_cases e2 : 0 = q
        · subst e2
          rw [if_pos rfl]
          have : (a.tmps.setIfInBounds t (.bool false)).getD 0 undef = a.tmps.getD 0 undef := by
            simp [Array.getElem?_setIfInBounds, h0t]
          rw [this, e0]
          exact .yld _ _ fun z hz' => by obtain ⟨z1, z2, z3⟩ := j2 z hz'; exact ⟨z1, fun hl => z2 (hlive _ hl), z3⟩
        · rw [if_neg e2]; exact .junk _
    · obtain ⟨q1, q2⟩ := h.fr.block q hq hnq
      have hn1 : q ∉ bks Sc := fun hm => q2 (hb.symm.subset (List.mem_append_left _ hm))
      obtain ⟨p1, p2⟩ := h5.block q (Nat.lt_of_lt_of_le hq h.fr.size) hn1
      exact ⟨(p1 (hl0 q hq)).trans q1, p2⟩

end Go.Proofs.Ythnobhekodiciaa.V

namespace Go.Proofs.Ythnobhekodiciaa.V
open Go.RowKit
set_option linter.unusedVariables false
set_option linter.unusedSimpArgs false

variable {P : Program} {C : Ctx} {G : List (Nat × List Value)} {Q : Exit → St → Prop} {x : St} {ops : Array Oper} {l : List Oper} {o : Oper}

theorem bin_shr {t : TypeId} {k k' : IntKind} {a b r : Int} (hb : 0 ≤ b) (h : a.fdiv (2 ^ min b.toNat k.bits) = r) : BinOK P .shr t (.int k a) (.int k' b) (.int k r) := fun y z w => by
 have : ¬ b < 0 := by omega
 simp [eqGuard, binOp, Op.shift, this, h]
/-! ### make -/

end Go.Proofs.Ythnobhekodiciaa.V

namespace Go.Proofs.Ythnobhekodiciaa.V
open Go.RowKit
set_option linter.unusedVariables false
set_option linter.unusedSimpArgs false

variable {P : Program} {C : Ctx} {G : List (Nat × List Value)} {Q : Exit → St → Prop} {x y : St} {ops : Array Oper} {o : Oper} {ro : Nat} {α : Type}

/-- From state x the code, in a round's frame, comes to what Q says. -/
def CI (P : Program) (C : Ctx) (ro : Nat) (c : Code) (x : St) (Q : Exit → St → Prop) : Prop := ∀ a w, Sim C x a w → c.wpIn (Fence.wide.inRound ro) 0 P (LQ C Q) a w
def ThenI (P : Program) (C : Ctx) (ro : Nat) (c : Code) (Q : Exit → St → Prop) : Exit → St → Prop
 | .normal, y => CI P C ro c y Q
 | e, y => Q e y
def NO (Q : Exit → St → Prop) : Prop := ∀ y, ¬ Q .outgrown y
theorem NO.then {c : Code} (h : NO Q) : NO (ThenI P C ro c Q) := fun y hq => h y hq
theorem NO.inBlock {id : Nat} (h : NO Q) : NO (InBlock id Q) := fun y hq => h y hq

theorem CI.wk {c : Code} (h : Wk x y) (k : CI P C ro c y Q) : CI P C ro c x Q := fun a w hs => k a w (h C a w hs)
theorem CI.perm {c : Code} {S' : List Blk} (hp : x.S.Perm S') (k : CI P C ro c ⟨x.n, x.env, S'⟩ Q) : CI P C ro c x Q := CI.wk (Wk.perm hp) k
theorem CI.skip (h : Q .normal x) : CI P C ro .skip x Q := fun a w hs => wpIn_skip (.inl ⟨x, hs, h⟩)
theorem CI.ret (h : Q .ret x) : CI P C ro .ret x Q := fun a w hs => wpIn_ret (.inl ⟨x, hs, h⟩)
theorem CI.exit {id : Nat} (h : Q (.exit id) x) : CI P C ro (.exit id) x Q := fun a w hs => wpIn_exit (.inl ⟨x, hs, h⟩)
theorem CI.seq {c d : Code} (h : CI P C ro c x (ThenI P C ro d Q)) : CI P C ro (.seq c d) x Q := fun a w hs =>
 wpIn_seq (wpIn_mono (h a w hs) fun e a' w' h => by
  rcases h with ⟨y, h1, h2⟩ | ⟨rfl, h⟩
  ·cases e <;> first | exact h2 a' w' h1 | exact .inl ⟨y, h1, h2⟩
  ·exact .inr ⟨rfl, h⟩)
theorem CI.cond {c : Operand} {d e : Code} {b : Bool} (hc : opd x c = .v (.bool b)) (ht : b = true → CI P C ro d x Q) (hf : b = false → CI P C ro e x Q) : CI P C ro (.cond c d e) x Q := fun a w hs =>
 wpIn_cond_split (hs.flat hc) (fun h => ht h a w hs) (fun h => hf h a w hs)
theorem CI.condT {c : Operand} {d e : Code} {b : Bool} (hc : opd x c = .v (.bool b)) (hb : b = true) (ht : CI P C ro d x Q) : CI P C ro (.cond c d e) x Q := fun a w hs =>
 wpIn_cond_true (by rw [hs.flat hc, hb]) (ht a w hs)
theorem CI.condF {c : Operand} {d e : Code} {b : Bool} (hc : opd x c = .v (.bool b)) (hb : b = false) (hf : CI P C ro e x Q) : CI P C ro (.cond c d e) x Q := fun a w hs =>
 wpIn_cond_false (by rw [hs.flat hc, hb]) (hf a w hs)
theorem CI.block {id : Nat} {c : Code} (h : CI P C ro c x (InBlock id Q)) : CI P C ro (.block id c) x Q := fun a w hs =>
 wpIn_block (wpIn_mono (h a w hs) fun e a' w' h => by
  rcases h with ⟨y, h1, h2⟩ | ⟨rfl, h⟩
  case inr => exact .inr ⟨rfl, h⟩
  cases e with
  | exit id' =>
   simp only [InBlock] at h2
   simp only [Exit.inBlock]
   by_cases he : id' = id
   ·subst he; rw [if_pos rfl]; simp at h2; exact .inl ⟨y, h1, h2⟩
   ·rw [if_neg he]
    have : Nat.beq id' id = false := by
     cases h : Nat.beq id' id with
     | false => rfl
     | true => exact absurd (Nat.eq_of_beq_eq_true h) he
    rw [this] at h2; exact .inl ⟨y, h1, h2⟩
  | _ => exact .inl ⟨y, h1, h2⟩)

def noDf (l : List Oper) : Bool := l.all fun o => match o.op with | .defer _ => false | _ => true
theorem list_in {Q : Exit → Act → World → Prop} (hno : ¬ LetsOut Q) : ∀ (l : List Oper), noDf l = true → ∀ a w, wpList P ops Q l a w → wpListIn (Fence.wide.inRound ro) 0 P ops Q l a w
 | [], _, a, w, h => h
 | o :: l, hd, a, w, h => by
  unfold noDf at hd
  rw [List.all_cons, Bool.and_eq_true] at hd
  obtain ⟨hd1, hd2⟩ := hd
  unfold wpList at h
  unfold wpListIn
  split at h
  ·rename_i hw
   rw [if_pos hw]
   rcases h with h | ⟨_, h⟩
   ·exact Oper.wpIn_mono (fun a w h => list_in hno l hd2 a w h) (oper_in (some ro) (fun c hc => by rw [hc] at hd1; cases hd1) h)
   ·exact absurd h hno
  ·rename_i hw
   rw [if_neg hw]
   exact ⟨fun _ _ => trivial, list_in hno l hd2 _ _ h⟩
theorem CI.region {id : Nat} {l : List Oper} (hno : NO Q) (hd : noDf l = true) (h : OD P C l.toArray l x Q) : CI P C ro (.region id l.toArray false) x Q := fun a w hs =>
 wpIn_region_lit (list_in (fun ⟨a, w, hq⟩ => by
  rcases hq with ⟨y, _, hq⟩ | ⟨hq, _⟩
  ·exact hno y hq
  ·cases hq) l hd a w (h a w hs))

/-! ### The loop -/
def envP : List Tmp → List D → List (Nat × D) → List (Nat × D)
 | t :: ts, d :: ds, env => envP ts ds ((t, d) :: env)
 | _, _, env => env
theorem Sim.params {n : Nat} {S : List Blk} : ∀ {ts : List Tmp} {ds : List D} {vs : List Value} {env : List (Nat × D)} {tm : Array Value} {w : World}, Sim C ⟨n, env, S⟩ { tmps := tm, defers := [] } w → RepL w (live C.X S) ds vs → ds.length = ts.length → Sim C ⟨n, envP ts ds env, S⟩ { tmps := (ts.zip vs).foldl (fun tm (t, v) => tm.setIfInBounds t v) tm, defers := [] } w
 | [], ds, vs, env, tm, w, h, _, hl => by
  have : ds = [] := List.length_eq_zero_iff.1 hl
  subst this; exact h
 | t :: ts, [], _, _, _, _, _, _, hl => by cases hl
 | t :: ts, d :: ds, [], _, _, _, _, hr, _ => by simp [RepL] at hr
 | t :: ts, d :: ds, v :: vs, env, tm, w, h, hr, hl => by
  obtain ⟨h0, h1⟩ := hr.tail
  exact Sim.params (env := (t, d) :: env) (tm := tm.setIfInBounds t v) (h.put h0) h1 (by simpa using hl)

/-- How a round may end. -/
def RoundQ (J Jx : List α → List Blk → Prop) (jc : Code) (xs : List α) : Exit → St → Prop
  | .normal, z => ∃ S', S'.Sublist z.S ∧ J xs S'
  | .ret, z => jc = .ret ∧ ∃ S', S'.Sublist z.S ∧ Jx xs S'
  | .exit i, z => jc = .exit i ∧ ∃ S', S'.Sublist z.S ∧ Jx xs S'
  | _, _ => False
theorem NO.round {J Jx : List α → List Blk → Prop} {jc : Code} {xs : List α} : NO (RoundQ J Jx jc xs) := fun y hq => hq
theorem NO.norm {Φ : St → Prop} : NO (fun e y => e = Exit.normal ∧ Φ y) := fun y hq => by cases hq.1

/-- The end of a body that holds a loop over a function. -/
def BodyN (P : Program) (fn : Func) (post : D → List Blk → Prop) (y : St) : Prop :=
  (y.env.all fun p => noY p.2) = true ∧ (∀ B ∈ y.S, noYs B.cs = true) ∧ ∃ r S', S'.Sublist y.S ∧ Ret P fn y r ∧ noY r = true ∧ post r S'
def BodyR (P : Program) (fn : Func) (post : D → List Blk → Prop) (e : Exit) (y : St) : Prop := e = .ret ∧ BodyN P fn post y
theorem NP.bodyR {fn : Func} {post : D → List Blk → Prop} : NP (BodyR P fn post) := fun ch y t hq => by cases hq.1

def mark (D : Nat) : Deferred := { target := .collected D, args := #[] }
def escOf (P : Program) (fn : Func) (post : D → List Blk → Prop) (X : Nat → Prop) (w0 : World) (S0 : List Nat) : Act → World → Prop := fun a w =>
 ∃ (Dd : Nat) (C' : Ctx) (y : St), C'.X = X ∧ a.defers = [mark Dd] ∧ Fr w0 S0 C'.w0 C'.S0 ∧ w0.heap.size ≤ Dd ∧ Dd < C'.w0.heap.size ∧ Dd ∉ C'.S0 ∧ C'.w0.heap[Dd]? = some (.deferred (some [])) ∧ Sim C' y a w ∧ BodyN P fn post y

/-- What stands where one object has turned that holds no cells. -/
theorem Sim.putOdd {a : Act} {w : World} (h : Sim C y a w) {l : Nat} {o1 o2 : Obj} (hl : w.heap[l]? = some o1) (ho : o1.isCells = false) (hlS : l ∉ bks y.S) (hlX : ¬ C.X l) (hn : (y.env.all fun p => noY p.2) = true) (hS : ∀ B ∈ y.S, noYs B.cs = true)
    (htab : TabAt G (w.putObj l o2) (bks y.S) C.X) (esc : Act → World → Prop) : Sim ⟨C.X, w.putObj l o2, bks y.S, G, a.defers, esc⟩ y a (w.putObj l o2) := by
  have hlt : l < w.heap.size := (Array.getElem?_eq_some_iff.1 hl).1
  have hsz : (w.putObj l o2).heap.size = w.heap.size := World.putObj_size
  have H : ∀ b, b ≠ l → (w.putObj l o2).heap[b]? = w.heap[b]? := fun b hb => World.putObj_heap_other hb
  refine ⟨rfl, h.size, fun t ht => (h.env t ht).monoX (Z := fun b => b = l) (noY_look hn t) (fun b _ hb hz => ⟨H b hz, hb⟩) (fun b i hz => by subst hz; exact cell_odd hl ho i) (by rw [hsz]; exact Nat.le_refl _) (fun b _ hb _ => hb),
    h.own.monoX (Z := fun b => b = l) (fun B hB => .inr (List.mem_map.2 ⟨B, hB, rfl⟩)) hS (fun b _ hz => H b hz) (fun b i hz => by subst hz; exact cell_odd hl ho i) (by rw [hsz]; exact Nat.le_refl _) (fun B hB e => hlS (e ▸ List.mem_map.2 ⟨B, hB, rfl⟩)),
    Fr.refl _ _, fun b hb => ?_, htab⟩
  show b < (w.putObj l o2).heap.size ∧ b ∉ bks y.S
  rw [hsz]
  exact ⟨Nat.lt_of_lt_of_le (h.ex b hb).1 h.fr.size, (h.fr.block b (h.ex b hb).1 (h.ex b hb).2).2⟩

theorem VC.bodyR {f : FuncId} {fn : Func} {c : Code} {n : Nat} {args : List D} {S : List Blk} {post : D → List Blk → Prop} (hf : P.funcs[f]? = some fn) (hb : fn.body = some c) (hn : fn.ntmps = n) (hl : args.length ≤ n)
  (h : ∀ X w0 S0, CD P ⟨X, w0, S0, G, [], escOf P fn post X w0 S0⟩ c ⟨n, envOf 0 args, S⟩ (Body P fn post)) : VC P G f args S post := fun X w vs hp => by
 have hvl : vs.length = args.length := hp.args.1
 let C : Ctx := ⟨X, w, bks S, G, [], escOf P fn post X w (bks S)⟩
 have hsim : Sim C ⟨n, envOf 0 args, S⟩ { tmps := vs.toArray ++ Array.replicate (fn.ntmps - vs.toArray.size) undef, defers := [] } w := by
  refine ⟨rfl, by simp [hn]; omega, fun t ht => ?_, hp.own, Fr.refl _ _, hp.ex, hp.tab⟩
  simp only [look_envOf, Nat.zero_le, if_true, Nat.sub_zero]
  by_cases hlt : t < args.length
  ·have e1 : args.getD t .junk = args[t] := by simp [List.getD, hlt]
   have e2 : (vs.toArray ++ Array.replicate (fn.ntmps - vs.toArray.size) undef).getD t undef = vs[t]'(by omega) := by
    rw [Array.getD_eq_getD_getElem?, Array.getElem?_append_left (by simp; omega)]
    simp [show t < vs.length by omega]
   rw [e1, e2]
   exact hp.args.2 t hlt (by omega)
  ·have e1 : args.getD t .junk = .junk := by simp [List.getD, List.getElem?_eq_none (show args.length ≤ t by omega)]
   rw [e1]; exact .junk _
 refine callsIn_wide.1 (callsIn_of_wp_marks (F := Fence.wide) (n := 0) hf hb trivial (wpIn_wide.2 (wp_mono (h X w (bks S) _ _ hsim) fun e a w' hq => ?_)) rfl)
 rcases hq with ⟨y, h1, h2, r, S', h3, h4, h5⟩ | ⟨rfl, Dd, C', y, hX, hdf, hfr0, hD0, hD1, hD2, hD3, h1, hny, hnS, r, S', h3, h4, hnr, h5⟩
 ·obtain ⟨v, q1, q2⟩ := h4 C a w' h1
  have hsub : (bks S').Sublist (bks y.S) := List.Sublist.map _ h3
  have key : LeavesInM Fence.wide 0 P fn a.tmps (fun e w' => ∃ v r S', e = .returned v ∧ post r S' ∧ Own w' (live X S') S' ∧ Rep w' (live X S') r v ∧ Fr w (bks S) w' (bks S')) a.defers .returning w' := by
   rw [show a.defers = [] from h1.defers]
   exact ⟨v, q2, v, r, S', rfl, h5, h1.own.sub h3, q1.mono fun b _ hn => ⟨rfl, fun hl => hn (hl.imp id fun q => hsub.subset q)⟩,
    ⟨h1.fr.os, h1.fr.tape, h1.fr.output, h1.fr.size, fun b hb' hn => ⟨(h1.fr.block b hb' hn).1, fun q => (h1.fr.block b hb' hn).2 (hsub.subset q)⟩⟩⟩
  rcases h2 with rfl | rfl <;> exact key
 ·show LeavesInM Fence.wide 0 P fn a.tmps _ a.defers .returning w'
  rw [hdf]
  obtain ⟨f1, f2⟩ := h1.fr.block Dd hD1 hD2
  have hD : w'.heap[Dd]? = some (.deferred (some [])) := f1.trans hD3
  have hXD : ¬ C'.X Dd := fun hx => by rw [hX] at hx; have := (hp.ex Dd hx).1; omega
  have hs2 := h1.putOdd (G := []) (o2 := .deferred none) hD rfl f2 hXD hny hnS (fun g hg => by cases hg) (fun _ _ => False)
  obtain ⟨v, q1, q2⟩ := h4 _ a _ hs2
  have hsub : (bks S').Sublist (bks y.S) := List.Sublist.map _ h3
  refine ⟨by simp, .inl ⟨Dd, _, rfl, run_takeDeferred hD, v, q2, v, r, S', rfl, h5, ?_, ?_, ?_⟩⟩
  ·have := hs2.own.sub h3
   rw [show (⟨C'.X, w'.putObj Dd (.deferred none), bks y.S, [], a.defers, fun _ _ => False⟩ : Ctx).X = X from hX] at this; exact this
  ·rw [← hX]; exact q1.mono fun b _ hn => ⟨rfl, fun hl => hn (hl.imp id fun q => hsub.subset q)⟩
  ·have k := hfr0.trans h1.fr
   exact ⟨k.os, k.tape, k.output, by rw [World.putObj_size]; exact k.size, fun b hb' hn => by
    obtain ⟨k1, k2⟩ := k.block b hb' hn
    exact ⟨(World.putObj_heap_other (by omega)).trans k1, fun q => k2 (hsub.subset q)⟩⟩

theorem fr_alloc (w : World) (o : Obj) (S : List Nat) (hS : ∀ b ∈ S, b < w.heap.size) : Fr w S (w.alloc o) S := ⟨rfl, rfl, rfl, by rw [World.size_alloc]; omega, fun b hb hn => ⟨Below.heap_alloc w o b hb, hn⟩⟩
theorem TabAt.on {w w' : World} {S S' : List Nat} {X X' : Nat → Prop} (h : TabAt G w S X) (hf : ∀ b, b < w.heap.size → b ∉ S → ¬ X b → w'.heap[b]? = w.heap[b]? ∧ b ∉ S' ∧ ¬ X' b) : TabAt G w' S' X' := fun g hg => by
 obtain ⟨⟨h1, h2, h3⟩, h4⟩ := h g hg
 obtain ⟨f1, f2, f3⟩ := hf g.1 h1 h2 h3
 exact ⟨⟨lt_of_same h1 f1, f2, f3⟩, fun i v hi => (h4 i v hi).on f1⟩

/-- A statement and what follows it. -/
def CDB (P : Program) (C : Ctx) (b rest : Code) (x : St) (Q : Exit → St → Prop) : Prop := ∀ a w, Sim C x a w → b.wp P (Exit.then (rest.wp P (LQ C Q)) (LQ C Q)) a w
def ThenB (P : Program) (C : Ctx) (b rest : Code) (Q : Exit → St → Prop) : Exit → St → Prop
 | .normal, y => CDB P C b rest y Q
 | e, y => Q e y
theorem NP.thenB {b c : Code} (h : NP Q) : NP (ThenB P C b c Q) := fun ch y t hq => h ch y t hq
theorem CDB.wk {b c : Code} (h : Wk x y) (k : CDB P C b c y Q) : CDB P C b c x Q := fun a w hs => k a w (h C a w hs)

/-- **A loop over a function**, and what follows it. -/
theorem CDB.range {X : Nat → Prop} {w0 : World} {S0 : List Nat} {fn : Func} {post : D → List Blk → Prop} {g : Operand} {ps : Array Tmp} {assign body : Code} {gf : FuncId} {caps : List D} {enc : α → List D} {Sa Sp : List α → Prop} {N id : Nat} {rest : Code}
    (hg : opd x g = .clo (.func gf) caps) (eg : ∀ args w, (callFunc gf args).run P w = .ok (.enter gf args) w) (hvi : VI P G gf caps enc Sa Sp N) (hps : ∀ y, (enc y).length = ps.toList.length) (hne : ∀ y, noYs (enc y) = true)
    (jc : Code) (hjc : jc = .ret ∨ jc = .exit id) (J Jx : List α → List Blk → Prop) (hJn : ∀ pre Sc, J pre Sc → ∀ B ∈ Sc, noYs B.cs = true) (hJxn : ∀ pre Sc, Jx pre Sc → ∀ B ∈ Sc, noYs B.cs = true) (h0 : J [] x.S)
    (AQ : List α → α → List Blk → St → Prop) (hAQ : ∀ pre y Sc z, AQ pre y Sc z → (z.env.all fun p => noY p.2) = true ∧ ∀ B ∈ z.S, noYs B.cs = true)
    (hassign : ∀ X' W' S' l pre y Sc, J pre Sc → pre.length < N → CI P ⟨X', W', S', G, [], fun _ _ => False⟩ l assign ⟨x.n, envP ps.toList (enc y) x.env, Sc⟩ (fun e z => e = .normal ∧ AQ pre y Sc z))
    (hbody : ∀ X' W' S' l pre y Sc z, J pre Sc → pre.length < N → AQ pre y Sc z → CI P ⟨X', W', S', G, [], fun _ _ => False⟩ l body z (RoundQ J Jx jc (pre ++ [y])))
    (hrest : ∀ W' S' D Sc, ((∃ xs, Sa xs ∧ J xs Sc) ∨ (jc = .exit id ∧ ∃ pre, Sp pre ∧ Jx pre Sc)) → CD P ⟨X, W', S', G, [mark D], fun _ _ => False⟩ rest ⟨x.n, x.env, Sc⟩ (BodyR P fn post))
    (hret : jc = .ret → ∀ pre Sc, Sp pre → Jx pre Sc → BodyN P fn post ⟨x.n, x.env, Sc⟩) : CDB P ⟨X, w0, S0, G, [], escOf P fn post X w0 S0⟩ (.block id (.rangeFunc g ps assign body)) rest x Q := fun a w hs => by
  have hex : ∀ b, X b → b < w.heap.size ∧ b ∉ bks x.S := fun b hb => ⟨Nat.lt_of_lt_of_le (hs.ex b hb).1 hs.fr.size, (hs.fr.block b (hs.ex b hb).1 (hs.ex b hb).2).2⟩
  have htab : TabAt G w (bks x.S) X := TabAt.on (w := w0) (S := S0) (X := X) hs.tab fun b h1 h2 h3 => ⟨(hs.fr.block b h1 h2).1, (hs.fr.block b h1 h2).2, h3⟩
  have hSlt : ∀ b ∈ bks x.S, b < w.heap.size := fun b hb => by
    obtain ⟨B, hB, rfl⟩ := List.mem_map.1 hb
    exact (hs.own.at_ B hB).1
  -- the function's value
  obtain ⟨lb, hgv, hlb⟩ : ∃ lb : List Value, a.eval g = .func (.func gf) #[] lb.toArray ∧ RepL w (live X x.S) caps lb := by
    have hv := hs.eval g
    rw [hg] at hv
    generalize a.eval g = u at hv
    cases hv with
    | clo _ _ vs hl hr => exact ⟨vs, rfl, hl, hr⟩
  refine (wp_block (wpIn_wide.1 (wpIn_rangeFunc (F := Fence.wide) (n := 0) fun fid _ => ?_)))
  obtain ⟨rec, hrec⟩ : ∃ rec : LoopState → Option Code → Loop, rec = fun st pe => { state := st, pending := pe, fn := fid, tmps := a.tmps, params := ps, assign, body, defers := w.heap.size } := ⟨_, rfl⟩
  obtain ⟨W1, hW1⟩ : ∃ W1, (w.alloc (.deferred (some []))).alloc (.loop (rec .ready none)) = W1 := ⟨_, rfl⟩
  have hL1 : W1.heap[w.heap.size + 1]? = some (.loop (rec .ready none)) := by
    rw [← hW1]; have := World.alloc_heap_new (w.alloc (.deferred (some []))) (.loop (rec .ready none)); rwa [World.size_alloc] at this
  have hK1 : W1.heap[w.heap.size]? = some (.deferred (some [])) := by
    rw [← hW1]; exact (Below.heap_alloc _ _ _ (by simp)).trans (World.alloc_heap_new w _)
  have hF1 : Fr w (bks x.S) W1 (bks x.S) := by
    rw [← hW1]; exact (fr_alloc w _ _ hSlt).trans (fr_alloc _ _ _ fun b hb => by rw [World.size_alloc]; have := hSlt b hb; omega)
  have hB1 : ∀ b, b < w.heap.size → W1.heap[b]? = w.heap[b]? := fun b hb => by
    rw [← hW1, Below.heap_alloc _ _ _ (by rw [World.size_alloc]; omega), Below.heap_alloc _ _ _ hb]
  have hown1 : Own W1 (live X x.S) x.S := ⟨fun B hB => by
    obtain ⟨r0, cur, r1, r2, r3, r4⟩ := hs.own.at_ B hB
    exact ⟨Nat.lt_of_lt_of_le r0 hF1.size, cur, (hB1 _ r0).trans r1, r2, r3, fun i hi => by
      obtain ⟨u, hu, hq⟩ := r4 i hi
      exact ⟨u, hu, hq.mono fun b hb hn => ⟨hB1 b hb, hn⟩⟩⟩, hs.own.apart⟩
  have hos : ∀ b, w.heap.size ≤ b → ¬ live X x.S b := fun b hb hl => by
    rcases hl with hl | hl
    · have := (hex b hl).1; omega
    · have := hSlt b hl; omega
  let Y : Ytr α := ⟨w.heap.size + 1, [(w.heap.size + 1, .loop (rec .ready none)), (w.heap.size, .deferred (some []))], [(w.heap.size + 1, .loop (rec .done (some jc))), (w.heap.size, .deferred (some []))], enc, J, Jx, N⟩
  have hraw1 : rawAt W1 (live X x.S) Y.os := fun z hz => by
    rcases List.mem_cons.1 hz with rfl | hz
    · exact ⟨(Array.getElem?_eq_some_iff.1 hL1).1, hos _ (by simp), hL1⟩
    · rw [List.mem_singleton] at hz; subst hz
      exact ⟨(Array.getElem?_eq_some_iff.1 hK1).1, hos _ (Nat.le_refl _), hK1⟩
  -- the caller's slots, later
  have henv : ∀ (W : World) (Xr : Nat → Prop) (Sc : List Blk), Fr w (bks x.S) W (bks Sc) → (∀ b, Xr b → X b ∨ w.heap.size ≤ b ∨ b ∈ bks x.S) → ∀ t, t < x.n → Rep W (live Xr Sc) (look t x.env) (a.tmps.getD t undef) := fun W Xr Sc hf hx t ht =>
    (hs.env t ht).mono fun b hb hn => by
      have hnS : b ∉ bks x.S := fun h => hn (.inr h)
      obtain ⟨k1, k2⟩ := hf.block b hb hnS
      refine ⟨k1, fun hl => ?_⟩
      rcases hl with hl | hl
      · rcases hx b hl with h | h | h
        · exact hn (.inl h)
        · omega
        · exact hnS h
      · exact k2 hl
  -- what follows
  have after : ∀ (W4 : World) (Sc : List Blk), Fr w (bks x.S) W4 (bks Sc) → Own W4 (live X Sc) Sc → W4.heap[w.heap.size]? = some (.deferred (some [])) → w.heap.size ∉ bks Sc →
      Sim ⟨X, W4, bks Sc, G, [mark w.heap.size], fun _ _ => False⟩ ⟨x.n, x.env, Sc⟩ { a with defers := [mark w.heap.size] ++ a.defers } W4 ∧ ∀ a' w' y, Sim ⟨X, W4, bks Sc, G, [mark w.heap.size], fun _ _ => False⟩ y a' w' → BodyN P fn post y → escOf P fn post X w0 S0 a' w' := fun W4 Sc hf ho hk hkS => by
    refine ⟨⟨by show [mark w.heap.size] ++ a.defers = _; rw [show a.defers = [] from hs.defers]; rfl, hs.size, fun t ht => henv W4 X Sc hf (fun b hb => .inl hb) t ht, ho, Fr.refl _ _, fun b hb => ⟨Nat.lt_of_lt_of_le (hex b hb).1 hf.size, (hf.block b (hex b hb).1 (hex b hb).2).2⟩, TabAt.on htab fun b h1 h2 h3 => ⟨(hf.block b h1 h2).1, (hf.block b h1 h2).2, h3⟩⟩, fun a' w' y h1 h2 => ?_⟩
    exact ⟨w.heap.size, _, y, rfl, h1.defers, hs.fr.trans hf, hs.fr.size, (Array.getElem?_eq_some_iff.1 hk).1, hkS, hk, h1, h2⟩
  refine ⟨w.heap.size + 1, [mark w.heap.size], W1, { target := .fn (.func gf) lb.toArray, args := #[.func (.yield (w.heap.size + 1)) #[] #[]] }, W1, gf, #[.func (.yield (w.heap.size + 1)) #[] #[]] ++ lb.toArray, W1, ?_, ?_, fun _ _ => trivial, ?_, fun hc => (by cases hc), ?_⟩
  · rw [← hW1, hrec]; exact run_enterLoop_outer _ _ _ _ _
  · simp only [resolve, hgv]
    simp [go_sem]
  · simp [invoke, go_sem, eg]
  refine callsIn_wide.2 ((hvi Y X w W1 (bks x.S) x.S lb rfl rfl hex htab (by simp [Y]) hown1 (hlb.mono fun b hb hn => ⟨hB1 b hb, hn⟩) hF1 hraw1 h0 ?_).mono ?_)
  · -- a round
    intro pre y Sc Xr W vs hJ hN hex2 hX1 hX2 hown hrep hfr hraw
    have hl : W.heap[w.heap.size + 1]? = some (.loop (rec .ready none)) := (hraw _ List.mem_cons_self).2.2
    have hk : W.heap[w.heap.size]? = some (.deferred (some [])) := (hraw _ (List.mem_cons_of_mem _ List.mem_cons_self)).2.2
    have hlL : ¬ live Xr Sc (w.heap.size + 1) := (hraw _ List.mem_cons_self).2.1
    have hkL : ¬ live Xr Sc w.heap.size := (hraw _ (List.mem_cons_of_mem _ List.mem_cons_self)).2.1
    have hkl : w.heap.size < W.heap.size := (Array.getElem?_eq_some_iff.1 hk).1
    have hll : w.heap.size + 1 < W.heap.size := (Array.getElem?_eq_some_iff.1 hl).1
    have hvl : vs.length = ps.toList.length := by rw [hrep.1]; exact hps y
    have hy := run_yield (P := P) (args := vs.toArray) hl (by rw [hrec]; simp at hvl ⊢; exact hvl)
    rw [hrec] at hy
    refine ⟨fid, _, assign, body, hy, roundIn_of_wpIn trivial ?_⟩
    have htab1 : TabAt G W (bks Sc) Xr := TabAt.on htab fun b h1 h2 h3 => ⟨(hfr.block b h1 h2).1, (hfr.block b h1 h2).2, fun hx => by
      rcases hX2 b hx with h | h | h
      · exact h3 h
      · omega
      · exact h2 h⟩
    have hsim1 : Sim ⟨Xr, W, bks Sc, G, [], fun _ _ => False⟩ ⟨x.n, x.env, Sc⟩ { tmps := a.tmps, defers := [] } W := ⟨rfl, hs.size, fun t ht => henv W Xr Sc hfr hX2 t ht, hown, Fr.refl _ _, hex2, htab1⟩
    have hzip : (ps.zip vs.toArray).foldl (fun t (p, v) => t.setIfInBounds p v) a.tmps = (ps.toList.zip vs).foldl (fun t (p, v) => t.setIfInBounds p v) a.tmps := by
      rw [← Array.foldl_toList]; simp
    refine wpIn_mono (hassign Xr W (bks Sc) _ pre y Sc hJ hN _ _ (by
      have := hsim1.params hrep (hps y)
      rw [← hzip] at this; exact this)) fun e a1 w1 hq => ?_
    rcases hq with ⟨z, hz1, rfl, hz2⟩ | ⟨_, hq⟩
    case inr => exact hq.elim
    obtain ⟨hny, hnS⟩ := hAQ _ _ _ _ hz2
    obtain ⟨f1, f2⟩ := hz1.fr.block (w.heap.size + 1) hll (fun h => hlL (.inr h))
    have hl1 : w1.heap[w.heap.size + 1]? = some (.loop (rec .ready none)) := f1.trans hl
    have hl2 : w1.heap.size = (w1.putObj (w.heap.size + 1) (.loop { rec .ready none with state := .busy })).heap.size := by rw [World.putObj_size]
    have hXl : ¬ Xr (w.heap.size + 1) := fun h => hlL (.inl h)
    have hother : ∀ (u : World) (ob : Obj) b, b ≠ w.heap.size + 1 → (u.putObj (w.heap.size + 1) ob).heap[b]? = u.heap[b]? := fun u ob b hb => World.putObj_heap_other hb
    obtain ⟨W2, hW2⟩ : ∃ W2, w1.putObj (w.heap.size + 1) (.loop { rec .ready none with state := .busy }) = W2 := ⟨_, rfl⟩
    have hsim2 := hz1.putOdd (G := G) (o2 := .loop { rec .ready none with state := .busy }) hl1 rfl f2 hXl hny hnS (TabAt.on htab fun b h1 h2 h3 => by
      obtain ⟨k1, k2⟩ := hfr.block b h1 h2
      obtain ⟨k3, k4⟩ := hz1.fr.block b (Nat.lt_of_lt_of_le h1 hfr.size) k2
      refine ⟨(hother _ _ _ (by omega)).trans (k3.trans k1), k4, fun hx => ?_⟩
      rcases hX2 b hx with h | h | h
      · exact h3 h
      · omega
      · exact h2 h) (fun _ _ => False)
    rw [hz1.defers, hW2] at hsim2
    have hl2 : W2.heap[w.heap.size + 1]? = some (.loop { rec .ready none with state := .busy }) := by rw [← hW2]; exact World.putObj_heap_same (Array.getElem?_eq_some_iff.1 hl1).1
    have hfin : ∀ (a3 : Act) (W3 : World) (y3 : St) (S' : List Blk) (jump : Option Code), Sim ⟨Xr, W2, bks z.S, G, [], fun _ _ => False⟩ y3 a3 W3 → S'.Sublist y3.S → (∀ B ∈ S', noYs B.cs = true) →
        ∃ W4, (Instr.endRound (w.heap.size + 1) jump).run P W3 = .ok (.bool jump.isNone) W4 ∧ W4.heap[w.heap.size + 1]? = some (.loop (rec (if jump.isNone then .ready else .done) jump)) ∧ W4.heap[w.heap.size]? = some (.deferred (some [])) ∧
          Own W4 (live Xr S') S' ∧ FrX (w.heap.size + 1) W (bks Sc) W4 (bks S') ∧ ¬ live Xr S' (w.heap.size + 1) ∧ ¬ live Xr S' w.heap.size := fun a3 W3 y3 S' jump h3 hsub hSn => by
      have hsb : (bks S').Sublist (bks y3.S) := List.Sublist.map _ hsub
      have hsz2 : W2.heap.size = w1.heap.size := by rw [← hW2, World.putObj_size]
      obtain ⟨g1, g2⟩ := h3.fr.block (w.heap.size + 1) (Array.getElem?_eq_some_iff.1 hl2).1 f2
      have hl3 : W3.heap[w.heap.size + 1]? = some (.loop { rec .ready none with state := .busy }) := g1.trans hl2
      have hlt3 := (Array.getElem?_eq_some_iff.1 hl3).1
      have hrun := run_endRound (P := P) jump hl3
      obtain ⟨k1, k2⟩ := hz1.fr.block w.heap.size hkl (fun h => hkL (.inr h))
      obtain ⟨k3, k4⟩ := h3.fr.block w.heap.size (by rw [hsz2]; exact Nat.lt_of_lt_of_le hkl hz1.fr.size) k2
      have hk2 : W2.heap[w.heap.size]? = some (.deferred (some [])) := by rw [← hW2]; exact (hother _ _ _ (by omega)).trans (k1.trans hk)
      have hlS : w.heap.size + 1 ∉ bks S' := fun h => g2 (hsb.subset h)
      refine ⟨_, hrun, ?_, (hother _ _ _ (by omega)).trans (k3.trans hk2), ?_, ?_, ?_, ?_⟩
      · rw [hrec]; exact World.putObj_heap_same hlt3
      · exact (h3.own.sub hsub).monoX (Z := fun b => b = w.heap.size + 1) (fun B hB => .inr (List.mem_map.2 ⟨B, hB, rfl⟩)) hSn (fun b _ hb => hother _ _ _ hb) (fun b i hz => by subst hz; exact cell_odd hl3 rfl i) (by rw [World.putObj_size]; exact Nat.le_refl _) (fun B hB e => hlS (e ▸ List.mem_map.2 ⟨B, hB, rfl⟩))
      · refine ⟨h3.fr.os.trans ?_, h3.fr.tape.trans ?_, h3.fr.output.trans ?_, ?_, fun b hb hn => ?_⟩
        · rw [← hW2]; exact hz1.fr.os
        · rw [← hW2]; exact hz1.fr.tape
        · rw [← hW2]; exact hz1.fr.output
        · rw [World.putObj_size]; exact Nat.le_trans hz1.fr.size (by rw [← hsz2]; exact h3.fr.size)
        · obtain ⟨m1, m2⟩ := hz1.fr.block b hb hn
          obtain ⟨m3, m4⟩ := h3.fr.block b (by rw [hsz2]; exact Nat.lt_of_lt_of_le hb hz1.fr.size) m2
          refine ⟨fun hne' => (hother _ _ _ hne').trans (m3.trans ?_), fun h => m4 (hsb.subset h)⟩
          rw [← hW2]; exact (hother _ _ _ hne').trans m1
      · rintro (h | h)
        · exact hXl h
        · exact hlS h
      · rintro (h | h)
        · exact hkL (.inl h)
        · exact k4 (hsb.subset h)
    refine ⟨W2, by rw [← hW2]; exact run_beginRound hl1 (by rw [hrec]), wpIn_mono (hbody Xr W2 (bks z.S) _ pre y Sc z hJ hN hz2 _ _ hsim2) fun e a3 W3 hq => ?_⟩
    rcases hq with ⟨y3, h3, hq⟩ | ⟨_, hq⟩
    case inr => exact hq.elim
    cases e with
    | normal =>
      obtain ⟨S', hsub, hj⟩ := hq
      obtain ⟨W4, r1, r2, r3, r4, r5, r6, r7⟩ := hfin a3 W3 y3 S' none h3 hsub (hJn _ _ hj)
      exact ⟨_, W4, r1, true, S', rfl, r4, r5, fun _ => ⟨hj, r2.trans hl.symm⟩, (fun h => by cases h)⟩
    | ret =>
      obtain ⟨hc, S', hsub, hj⟩ := hq
      obtain ⟨W4, r1, r2, r3, r4, r5, r6, r7⟩ := hfin a3 W3 y3 S' (some .ret) h3 hsub (hJxn _ _ hj)
      refine ⟨_, W4, r1, false, S', rfl, r4, r5, (fun h => by cases h), fun _ => ⟨hj, fun z hz => ?_⟩⟩
      rcases List.mem_cons.1 hz with rfl | hz
      · exact ⟨(Array.getElem?_eq_some_iff.1 r2).1, r6, by rw [hc]; exact r2⟩
      · rw [List.mem_singleton] at hz; subst hz
        exact ⟨(Array.getElem?_eq_some_iff.1 r3).1, r7, r3⟩
    | exit i =>
      obtain ⟨hc, S', hsub, hj⟩ := hq
      obtain ⟨W4, r1, r2, r3, r4, r5, r6, r7⟩ := hfin a3 W3 y3 S' (some (.exit i)) h3 hsub (hJxn _ _ hj)
      refine ⟨_, W4, r1, false, S', rfl, r4, r5, (fun h => by cases h), fun _ => ⟨hj, fun z hz => ?_⟩⟩
      rcases List.mem_cons.1 hz with rfl | hz
      · exact ⟨(Array.getElem?_eq_some_iff.1 r2).1, r6, by rw [hc]; exact r2⟩
      · rw [List.mem_singleton] at hz; subst hz
        exact ⟨(Array.getElem?_eq_some_iff.1 r3).1, r7, r3⟩
    | goto t => exact hq.elim
    | panic ch => exact hq.elim
    | outgrown => exact hq.elim
  · -- behind the iterator
    have hend : ∀ (W' : World) (Sc : List Blk) (st : LoopState) (pe : Option Code), Own W' (live X Sc) Sc → Fr w (bks x.S) W' (bks Sc) → (∀ B ∈ Sc, noYs B.cs = true) → st ≠ .busy →
        rawAt W' (live X Sc) [(w.heap.size + 1, .loop (rec st pe)), (w.heap.size, .deferred (some []))] →
        ∃ W4, (Instr.endLoop (w.heap.size + 1)).run P W' = .ok pe W4 ∧ Sim ⟨X, W4, bks Sc, G, [mark w.heap.size], fun _ _ => False⟩ ⟨x.n, x.env, Sc⟩ { a with defers := [mark w.heap.size] ++ a.defers } W4 ∧
          ∀ a' w' y, Sim ⟨X, W4, bks Sc, G, [mark w.heap.size], fun _ _ => False⟩ y a' w' → BodyN P fn post y → escOf P fn post X w0 S0 a' w' := fun W' Sc st pe ho hf hSn hst hraw => by
      obtain ⟨r1, r2, r3⟩ := hraw _ List.mem_cons_self
      obtain ⟨k1, k2, k3⟩ := hraw _ (List.mem_cons_of_mem _ List.mem_cons_self)
      have r1 : w.heap.size + 1 < W'.heap.size := r1
      have r3 : W'.heap[w.heap.size + 1]? = some (.loop (rec st pe)) := r3
      have hrun := run_endLoop (P := P) r3 (by rw [hrec]; exact hst)
      have hpe : (rec st pe).pending = pe := by rw [hrec]
      rw [hpe] at hrun
      refine ⟨_, hrun, after _ Sc ⟨hf.os, hf.tape, hf.output, by rw [World.putObj_size]; exact hf.size, fun b hb hn => ⟨(World.putObj_heap_other (by omega)).trans (hf.block b hb hn).1, (hf.block b hb hn).2⟩⟩ ?_ ((World.putObj_heap_other (by omega)).trans k3) (fun h => k2 (.inr h))⟩
      exact ho.monoX (Z := fun b => b = w.heap.size + 1) (fun B hB => .inr (List.mem_map.2 ⟨B, hB, rfl⟩)) hSn (fun b _ hb => World.putObj_heap_other hb) (fun b i hz => by subst hz; exact cell_odd r3 rfl i) (by rw [World.putObj_size]; exact Nat.le_refl _) (fun B hB e => r2 (.inr (by rw [← e]; exact List.mem_map.2 ⟨B, hB, rfl⟩)))
    have hR : ∀ (a' : Act) (W4 : World) (Sc : List Blk), Sim ⟨X, W4, bks Sc, G, [mark w.heap.size], fun _ _ => False⟩ ⟨x.n, x.env, Sc⟩ a' W4 → (∀ a' w' y, Sim ⟨X, W4, bks Sc, G, [mark w.heap.size], fun _ _ => False⟩ y a' w' → BodyN P fn post y → escOf P fn post X w0 S0 a' w') →
        ((∃ xs, Sa xs ∧ J xs Sc) ∨ (jc = .exit id ∧ ∃ pre, Sp pre ∧ Jx pre Sc)) → rest.wp P (LQ ⟨X, w0, S0, G, [], escOf P fn post X w0 S0⟩ Q) a' W4 := fun a' W4 Sc h1 h2 h3 =>
      wp_mono (hrest W4 (bks Sc) w.heap.size Sc h3 _ _ h1) fun e a2 w2 hq => by
        rcases hq with ⟨y, q1, rfl, q2⟩ | ⟨_, hq⟩
        · exact .inr ⟨rfl, h2 _ _ _ q1 q2⟩
        · exact hq.elim
    rintro e W' ⟨v, Sc, rfl, hown, hfr, h⟩
    rcases h with ⟨xs, hsa, hj, hraw⟩ | ⟨pre, hsp, hj, hraw⟩
    · obtain ⟨W4, q1, q2, q3⟩ := hend W' Sc .ready none hown hfr (hJn _ _ hj) (by simp) hraw
      refine ⟨none, W4, q1, ?_⟩
      exact hR _ W4 Sc q2 q3 (.inl ⟨xs, hsa, hj⟩)
    · obtain ⟨W4, q1, q2, q3⟩ := hend W' Sc .done (some jc) hown hfr (hJxn _ _ hj) (by simp) hraw
      refine ⟨some jc, W4, q1, ?_⟩
      rcases hjc with hjc | hjc
      · rw [hjc]
        refine wpIn_ret ?_
        exact .inr ⟨rfl, q3 _ _ _ q2 (hret hjc pre Sc hsp hj)⟩
      · rw [hjc]
        refine wpIn_exit ?_
        have := hR _ W4 Sc q2 q3 (.inr ⟨hjc, pre, hsp, hj⟩)
        simpa [Exit.inBlock, Exit.then] using this

/-! ### More steps of a drawn region -/
variable {S1 T : List Nat} {fuel i : Nat} {ld : Array Bool}
theorem AD.giveL {t m cap e sz : Nat} {Sq R : List Blk} {cs : List D} {ad : Option Addr} (ht : V.look t x.env = .v (.slice ad m cap)) (ho : OwnL e sz cs m ad cap Sq) (hl : cs.length = m * sz) (hp : x.S.Perm (Sq ++ R))
  (k : AD P C ops S1 T fuel ld ⟨x.n, (t, .list sz cs m) :: x.env, R⟩ Q) (hne : isMap e = false := by rfl) : AD P C ops S1 T fuel ld x Q :=
 AD.wkSub (Wk.giveL (hne := hne) ht ho hl hp) (fun b hb => by
  obtain ⟨B, hB, rfl⟩ := List.mem_map.1 hb
  exact List.mem_map.2 ⟨B, hp.symm.subset (List.mem_append_right _ hB), rfl⟩) k

end Go.Proofs.Ythnobhekodiciaa.V

namespace Go.Proofs.Ythnobhekodiciaa.V
open Go.RowKit
set_option linter.unusedVariables false
set_option linter.unusedSimpArgs false

variable {P : Program} {C : Ctx} {G : List (Nat × List Value)} {Q : Exit → St → Prop} {x : St} {ops : Array Oper} {o : Oper} {n fuel t : Nat} {e : List (Nat × D)} {S : List Blk} {S1 T : List Nat} {ld : Array Bool} {d : D} {kd : Rd}

theorem a0_ (i : Nat) (hi : ops[i]? = some o) (h : Still P C.G ⟨n, e, S⟩ o kd d) (K : AD0 P C ops S1 T fuel (ld.setIfInBounds i true) ⟨n, (t, d) :: e, S⟩ Q) (hs : Region.noSelect ops = true := by kernel_rfl) (hf : Region.free .any ops ld i = true := by kernel_rfl) (hr : (Region.ready .any ops ld).contains i = true := by kernel_rfl)
  (hp : NP Q := by repeat (first | exact NP.norm | exact NP.body | exact NP.bodyR | apply NP.thenB | apply NP.then | apply NP.cut | apply NP.inBlock | apply NP.round)) (hw : Wants ops ⟨n, e, S⟩ o true := by first | exact wants_plain rfl | exact wants_T rfl rfl rfl lk (by first | rfl | assumption)) (hd : o.dst = some t := by exact rfl)
  (hk : Safe ⟨n, e, S⟩ T kd := by first | exact trivial | exact safe_blk (k0 := 0) rfl rfl | exact safe_blk (k0 := 1) rfl rfl | exact safe_blk (k0 := 2) rfl rfl | exact safe_blk (k0 := 3) rfl rfl | exact safe_blk (k0 := 4) rfl rfl | exact safe_blk (k0 := 5) rfl rfl) : AD0 P C ops S1 T (fuel + 1) ld ⟨n, e, S⟩ Q :=
 AD0.take hi hs hf hr hp hw hd h hk K
theorem a1_ (i : Nat) (hi : ops[i]? = some o) (h : Still P C.G ⟨n, e, S⟩ o kd d) (K : AD P C ops S1 T fuel (ld.setIfInBounds i true) ⟨n, (t, d) :: e, S⟩ Q) (hs : Region.noSelect ops = true := by kernel_rfl) (hf : Region.free .any ops ld i = true := by kernel_rfl) (hr : (Region.ready .any ops ld).contains i = true := by kernel_rfl)
  (hp : NP Q := by repeat (first | exact NP.norm | exact NP.body | exact NP.bodyR | apply NP.thenB | apply NP.then | apply NP.cut | apply NP.inBlock | apply NP.round)) (hw : Wants ops ⟨n, e, S⟩ o true := by first | exact wants_plain rfl | exact wants_T rfl rfl rfl lk (by first | rfl | assumption)) (hd : o.dst = some t := by exact rfl)
  (hk : Safe ⟨n, e, S⟩ T kd := by first | exact trivial | exact safe_blk (k0 := 0) rfl rfl | exact safe_blk (k0 := 1) rfl rfl | exact safe_blk (k0 := 2) rfl rfl | exact safe_blk (k0 := 3) rfl rfl | exact safe_blk (k0 := 4) rfl rfl | exact safe_blk (k0 := 5) rfl rfl) (hni : kd ≠ .imm := by intro h; cases h) : AD P C ops S1 T (fuel + 1) ld ⟨n, e, S⟩ Q :=
 AD.take hi hs hf hr hp hw hd h hk hni K
theorem at_ {i : Nat} (hi : ops[i]? = some o) (h : Still P C.G ⟨n, e, S⟩ o kd d) (K : AD P C ops S1 T fuel (ld.setIfInBounds i true) ⟨n, (t, d) :: e, S⟩ Q) (hw : Wants ops ⟨n, e, S⟩ o true := by first | exact wants_plain rfl | exact wants_T rfl rfl rfl lk (by first | rfl | assumption)) (hd : o.dst = some t := by exact rfl) : AStep P C ops S1 T fuel ld ⟨n, e, S⟩ Q i :=
 AStep.still hi hw hd h K
theorem s1_ (i : Nat) (hi : ops[i]? = some o) (K : AD P C ops S1 T fuel (ld.setIfInBounds i true) ⟨n, (t, .v (.tuple #[])) :: e, S⟩ Q) (hw : Wants ops ⟨n, e, S⟩ o false := by first | exact wants_F rfl rfl rfl lk (by first | rfl | assumption) | exact wants_J (b := false) rfl rfl rfl lk) (hs : Region.noSelect ops = true := by kernel_rfl) (hf : Region.free .any ops ld i = true := by kernel_rfl) (hr : (Region.ready .any ops ld).contains i = true := by kernel_rfl)
  (hp : NP Q := by repeat (first | exact NP.norm | exact NP.body | exact NP.bodyR | apply NP.thenB | apply NP.then | apply NP.cut | apply NP.inBlock | apply NP.round)) (hd : o.dst = some t := by exact rfl) : AD P C ops S1 T (fuel + 1) ld ⟨n, e, S⟩ Q :=
 AD.takeSkip hi hs hf hr hp hw hd K
/-- What a slot holds, found. -/
theorem lq_ {l : List (Nat × D)} (h : look t l = d := by (repeat (first | exact look_hit | (apply look_at; focus (first | rfl | (simp; done) | (congr 2; omega))) | (apply look_miss; focus rfl))); done) : look t l = d := h
/-- Bytes as a string. -/
def sbQ (P : Program) (s u : Nat) : Bool := match P.underlying s with
  | some (.slice b) => (match P.underlying b with
    | some (.int .u8) => (match P.underlying u with
      | some .string => true
      | _ => false)
    | _ => false)
  | _ => false
theorem sb_of {s u : Nat} (h : sbQ P s u = true) : ∃ b, P.underlying s = some (.slice b) ∧ P.underlying b = some (.int .u8) ∧ P.underlying u = some .string := by
 unfold sbQ at h
 split at h
 ·rename_i b hb
  split at h
  ·rename_i h8
   split at h
   ·rename_i hu; exact ⟨b, hb, h8, hu⟩
   ·cases h
  ·cases h
 ·cases h
theorem sb_ {s u : TypeId} {y : Operand} {bs : List UInt8} {m : Nat} (ho : o.op = .convert s u y := by exact rfl) (hy : opd x y = .list 1 (bs.flatMap cB) m := by exact ot) (hs : sbQ P s u = true := by kernel_rfl) : Still P G x o .imm (.v (.string ⟨bs.toArray⟩)) := by
 obtain ⟨b, h1, h2, h3⟩ := sb_of hs
 exact still_ofBytesF ho hy h1 h2 h3

end Go.Proofs.Ythnobhekodiciaa.V

namespace Go.Proofs.Ythnobhekodiciaa.Pk
open Go.RowKit V
set_option linter.unusedVariables false
set_option linter.unusedSimpArgs false

def pickedF (n m : Int) : Int := if n < 0 then (-(n + 1)).tmod m else n.tmod m
theorem pickedF_bd (n : Int) {m : Int} (h : 1 ≤ m) : 0 ≤ pickedF n m ∧ pickedF n m < m := by
 have key : ∀ k : Int, 0 ≤ k → 0 ≤ k.tmod m ∧ k.tmod m < m := fun k hk => ⟨Int.tmod_nonneg _ hk, Int.tmod_lt_of_pos _ (by omega)⟩
 unfold pickedF
 split
 ·exact key _ (by omega)
 ·exact key _ (by omega)
variable (G : List (Nat × List Value))

set_option maxHeartbeats 4000000 in
set_option maxRecDepth 100000 in
theorem picked_vp (n m : Int) (hn : -9223372036854775808 ≤ n) (hn2 : n ≤ 9223372036854775807) (hm : 1 ≤ m) : VP Try.prog G 12 [.v (.int .i64 n), .v (.int .i64 m)] (.v (.int .i64 (pickedF n m))) := by
 refine VC.body Try.func12 rfl Try.ntmps12 (Nat.le_of_ble_eq_true rfl) fun X0 w0 S00 => ?_
 refine sr_ ?_
 refine os_ mv_ ?_
 refine nm_ [0, 1] ?_
 refine CD.seq ?_
 refine sr_ ?_
 refine os_ mv_ ?_
 refine os_ bn_ ?_
 refine nm_ [0, 1, 6] ?_
 refine CD.cond ot (fun hc0 => ?_) (fun hc0 => ?_)
 ·have hc0' := hc0
  (try simp only [V.cnd, ne_eq] at hc0')
  refine CD.region ?_
  refine os_ mv_ ?_
  refine os_ bn_ ?_
  refine OD.still (wants_plain rfl) rfl (still_un rfl ot (un_neg (r := -(n+1)) (by rw [wrap_i64] <;> omega))) ?_
  refine os_ mv_ ?_
  refine OD.wk (Wk.as_ (n := 13) (l' := [(0, _), (1, _)]) (S' := []) rfl rfl ⟨lk, lk, trivial⟩) ?_
  refine OD.nil ?_
  refine sr_ ?_
  refine os_ mv_ ?_
  refine os_ mv_ ?_
  refine OD.still (wants_plain rfl) rfl (still_bin rfl ot ot (bin_rem (by omega))) ?_
  refine os_ mv_ ?_
  refine OD.wk (Wk.as_ (n := 13) (l' := [(4, _)]) (S' := []) rfl rfl ⟨lk, trivial⟩) ?_
  refine OD.nil ?_
  refine CD.ret ?_
  refine ⟨.inr rfl, _, [], List.nil_sublist _, ret_one Try.results12 (res_tmp (Nat.le_of_ble_eq_true rfl) lk), ?_⟩
  exact ⟨by unfold pickedF; split <;> first | rfl | omega, rfl⟩
 ·have hc0' := hc0
  (try simp only [V.cnd, ne_eq] at hc0')
  refine CD.skip ?_
  refine sr_ ?_
  refine os_ mv_ ?_
  refine os_ mv_ ?_
  refine OD.still (wants_plain rfl) rfl (still_bin rfl ot ot (bin_rem (by omega))) ?_
  refine os_ mv_ ?_
  refine OD.wk (Wk.as_ (n := 13) (l' := [(4, _)]) (S' := []) rfl rfl ⟨lk, trivial⟩) ?_
  refine OD.nil ?_
  refine CD.ret ?_
  refine ⟨.inr rfl, _, [], List.nil_sublist _, ret_one Try.results12 (res_tmp (Nat.le_of_ble_eq_true rfl) lk), ?_⟩
  exact ⟨by unfold pickedF; split <;> first | rfl | omega, rfl⟩

end Go.Proofs.Ythnobhekodiciaa.Pk

namespace Go.Proofs.Ythnobhekodiciaa.Tw
open Go.RowKit V Go.Proofs.Ythnobhekodiciaa.Tr Pk
set_option linter.unusedVariables false
set_option linter.unusedSimpArgs false

open Go.Lib (compareBytes)
/-- What a key reads as. -/
def cK (k : K) : List D := [.list 1 (k.flatMap cB) k.length]
theorem cK_len (k : K) : (cK k).length = 1 := rfl
theorem cK_one (k : K) : (cK k).all V.one = true := rfl
def cI (n : Int) : List D := [.v (.int .i64 n)]
theorem cI_len (n : Int) : (cI n).length = 1 := rfl
theorem cI_one (n : Int) : (cI n).all V.one = true := rfl
def cP (p : PgL) : List D := [.v (.bool p.leaf), .list 1 (p.keys.flatMap cK) p.keys.length, .list 1 (p.kids.flatMap cI) p.kids.length, .list 1 (p.high.flatMap cB) p.high.length, .v (.int .i64 p.next)]
theorem cP_len (p : PgL) : (cP p).length = 5 := rfl
def cT (t : TreeL) : List D := [.list 5 (t.pages.flatMap cP) t.pages.length, .v (.int .i64 t.root)]
/-- May it be a key? -/
def keyQ (k : K) : Bool := decide (0 < k.length ∧ k.length ≤ 100)
/-- A page, key by key: as far as it has been looked at. -/
def KeyAt (p : PgL) (i : Nat) : Prop := ∀ (h : i < p.keys.length), keyQ p.keys[i] = true ∧ (∀ (h0 : 0 < i), klt (p.keys[i - 1]'(by omega)) p.keys[i]) ∧ (p.high ≠ [] → klt p.keys[i] p.high)
theorem rise_adj {l : List K} (h : ∀ i (hi : i < l.length) (h0 : 0 < i), klt (l[i - 1]'(by omega)) l[i]) : l.Pairwise klt := by
 refine List.pairwise_iff_getElem.2 fun i j hi hj hij => ?_
 obtain ⟨d, rfl⟩ : ∃ d, j = i + 1 + d := ⟨j - (i + 1), by omega⟩
 induction d with
 | zero => have := h (i + 1) hj (by omega); simpa using this
 | succ d ih =>
  have h1 := ih (by omega) (by omega)
  have h2 := h (i + 1 + (d + 1)) hj (by omega)
  exact klt_tr h1 (by simpa using h2)
theorem keys_at {p : PgL} {n : Int} (h : PageOk p n) (i : Nat) : KeyAt p i := fun hi => by
 have hm := List.getElem_mem hi
 have := h.klen _ hm
 exact ⟨by unfold keyQ; simp; omega, fun h0 => rise_at h.rise (by omega) hi, fun hne => h.khigh hne _ hm⟩
theorem len_ne {l : K} (h : decide ((l.length : Int) > 0) = true) : l ≠ [] := fun e => by rw [e] at h; cases h
theorem len_nil {l : K} (h : decide ((l.length : Int) > 0) = false) : l = [] := by
 have := of_decide_eq_false h
 exact List.length_eq_zero_iff.1 (by omega)
theorem bey_T {hi k : K} (h : decide ((hi.length : Int) > 0) = true) : decide (compareBytes k hi ≥ 0) = decide (hi ≠ [] ∧ ¬ klt k hi) := by
 have := len_ne h
 unfold klt
 simp [this]
theorem bey_F {hi k : K} (h : decide ((hi.length : Int) > 0) = false) : false = decide (hi ≠ [] ∧ ¬ klt k hi) := by simp [len_nil h]
variable {G : List (Nat × List Value)}

set_option maxHeartbeats 4000000 in
set_option maxRecDepth 100000 in
theorem cmp_vp (a b : K) : VP Try.prog G 32 [.list 1 (a.flatMap cB) a.length, .list 1 (b.flatMap cB) b.length] (.v (.int .i64 (compareBytes a b))) := by
 refine VC.body Try.func32 rfl Try.ntmps32 (Nat.le_of_ble_eq_true rfl) fun X0 w0 S00 => ?_
 refine sr_ ?_
 refine os_ mv_ ?_
 refine nm_ [0, 1] ?_
 refine sr_ ?_
 refine os_ mv_ ?_
 refine os_ mv_ ?_
 refine OD.still (wants_plain rfl) rfl (still_bytecmp rfl ot ot Try.func48 (by kernel_rfl) (by kernel_rfl) (by kernel_rfl) (by kernel_rfl)) ?_
 refine os_ mv_ ?_
 refine OD.wk (Wk.as_ (n := 8) (l' := [(4, _)]) (S' := []) rfl rfl ⟨lk, trivial⟩) ?_
 refine OD.nil ?_
 refine CD.ret ?_
 refine ⟨.inr rfl, _, [], List.nil_sublist _, ret_one Try.results32 (res_tmp (Nat.le_of_ble_eq_true rfl) lk), ?_⟩
 exact ⟨rfl, rfl⟩

set_option maxHeartbeats 4000000 in
set_option maxRecDepth 100000 in
theorem eq_vp (a b : K) (ha : a.length ≤ maxLen) (hb : b.length ≤ maxLen) : VP Try.prog G 37 [.list 1 (a.flatMap cB) a.length, .list 1 (b.flatMap cB) b.length] (.v (.bool (decide (a = b)))) := by
 refine VC.body Try.func37 rfl Try.ntmps37 (Nat.le_of_ble_eq_true rfl) fun X0 w0 S00 => ?_
 refine sr_ ?_
 refine os_ mv_ ?_
 refine nm_ [0, 1] ?_
 refine sr_ ?_
 refine os_ mv_ ?_
 refine os_ sb_ ?_
 refine os_ mv_ ?_
 refine os_ sb_ ?_
 refine os_ bn_ ?_
 refine os_ mv_ ?_
 refine nm_ [4] ?_
 refine CD.ret ?_
 refine r1_ ?_
 refine ⟨vb ?_, rfl⟩
 rw [ByteArray.toList_eq, ByteArray.toList_eq]
 show (a == b) = decide (a = b)
 by_cases h : a = b <;> simp [h]

set_option maxHeartbeats 4000000 in
set_option maxRecDepth 100000 in
theorem key_vp (k : K) : VP Try.prog G 38 [.list 1 (k.flatMap cB) k.length] (.v (.bool (keyQ k))) := by
 refine VC.body Try.func38 rfl Try.ntmps38 (Nat.le_of_ble_eq_true rfl) fun X0 w0 S00 => ?_
 refine sr_ ?_
 refine os_ mv_ ?_
 refine nm_ [0] ?_
 refine sr_ ?_
 refine os_ mv_ ?_
 refine os_ ln_ ?_
 refine os_ bn_ ?_
 refine os_ mv_ ?_
 refine OD.split (t := 6) lk (fun hg6 => ?_) (fun hg6 => ?_)
 ·have hg6' := hg6; (try simp only [V.cnd, ne_eq] at hg6')
  refine os_ mv_ ?_
  refine os_ ln_ ?_
  refine os_ bn_ ?_
  refine os_ pkT_ ?_
  refine os_ mv_ ?_
  refine nm_ [2] ?_
  refine CD.ret ?_
  refine r1_ ?_
  refine ⟨vb ?_, rfl⟩
  unfold keyQ
  first | (simp_all; done) | (simp_all; omega)
 ·have hg6' := hg6; (try simp only [V.cnd, ne_eq] at hg6')
  refine sk_ ?_
  refine sk_ ?_
  refine sk_ ?_
  refine os_ pkF_ ?_
  refine os_ mv_ ?_
  refine nm_ [2] ?_
  refine CD.ret ?_
  refine r1_ ?_
  refine ⟨vb ?_, rfl⟩
  unfold keyQ
  first | (simp_all; done) | (simp_all; omega)

set_option maxHeartbeats 4000000 in
set_option maxRecDepth 100000 in
theorem beyond_vp (p : PgL) (k : K) : VP Try.prog G 40 [.agg (cP p), .list 1 (k.flatMap cB) k.length] (.v (.bool (decide (p.high ≠ [] ∧ ¬ klt k p.high)))) := by
 refine VC.body Try.func40 rfl Try.ntmps40 (Nat.le_of_ble_eq_true rfl) fun X0 w0 S00 => ?_
 unfold cP
 refine sr_ ?_
 refine OD.box (ds := [_, _, _, _, _]) (wants_plain rfl) rfl rfl ot rfl rfl (fun b2 => ?_)
 refine os_ mv_ ?_
 refine OD.wk (Wk.as_ (n := 16) (l' := [(1, _), (2, _)]) (S' := [⟨b2, 44, 5, [_, _, _, _, _]⟩]) rfl rfl ⟨lk, lk, trivial⟩) ?_
 refine OD.nil ?_
 refine sr_ ?_
 refine os_ (fa_ 3) ?_
 refine os_ (lb_ 0) ?_
 refine os_ ln_ ?_
 refine os_ bn_ ?_
 refine os_ mv_ ?_
 refine OD.split (t := 9) lk (fun hg9 => ?_) (fun hg9 => ?_)
 ·have hg9' := hg9; (try simp only [V.cnd, ne_eq] at hg9')
  refine os_ mv_ ?_
  refine os_ (fa_ 3) ?_
  refine os_ (lb_ 0) ?_
  refine OD.callP (wants_T rfl rfl rfl lk (by first | rfl | assumption)) rfl rfl rfl Try.call32 (cmp_vp k p.high) ⟨ot, ot, trivial⟩ ?_
  refine os_ bn_ ?_
  refine os_ pkT_ ?_
  refine os_ mv_ ?_
  refine OD.wk (Wk.as_ (n := 16) (l' := [(4, _)]) (S' := [⟨b2, 44, 5, [_, _, _, _, _]⟩]) rfl rfl ⟨lk, trivial⟩) ?_
  refine OD.nil ?_
  refine CD.ret ?_
  refine ⟨.inr rfl, _, [], List.nil_sublist _, ret_one Try.results40 (res_tmp (Nat.le_of_ble_eq_true rfl) lk), ?_⟩
  refine ⟨vb ?_, rfl⟩
  first | exact bey_T hg9 | exact bey_F hg9
 ·have hg9' := hg9; (try simp only [V.cnd, ne_eq] at hg9')
  refine sk_ ?_
  refine sk_ ?_
  refine sk_ ?_
  refine sk_ ?_
  refine sk_ ?_
  refine os_ pkF_ ?_
  refine os_ mv_ ?_
  refine nm_ [4] ?_
  refine CD.ret ?_
  refine r1_ ?_
  refine ⟨vb ?_, rfl⟩
  first | exact bey_T hg9 | exact bey_F hg9

theorem iff_b {a : Int} {l : K} (h : (decide (a < 0) != ((l.length : Int) == 0)) = false) : a < 0 ↔ l = [] := by
 have h : decide (a < 0) = ((l.length : Int) == 0) := by simpa using h
 rw [← List.length_eq_zero_iff]
 constructor
 ·intro q; rw [decide_eq_true q] at h; have := beq_iff_eq.1 h.symm; omega
 ·intro q; rw [q] at h; exact of_decide_eq_true h
theorem b_iff {a : Int} {l : K} (h : a < 0 ↔ l = []) : (!(decide (a < 0) == ((l.length : Int) == 0))) = false := by
 rw [← List.length_eq_zero_iff] at h
 by_cases q : a < 0
 ·rw [decide_eq_true q, h.1 q]; rfl
 ·rw [decide_eq_false q]; have : ¬ l.length = 0 := fun e => q (h.2 e); simp; exact fun e => this (by rw [e]; rfl)
open Classical in
noncomputable def pageQ (p : PgL) (many : Int) : Bool := decide (PageOk p many)
open Classical in
theorem pageQ_no {p : PgL} {many : Int} (h : ¬ PageOk p many) : false = pageQ p many := (decide_eq_false h).symm
open Classical in
theorem pageQ_yes {p : PgL} {many : Int} (h : PageOk p many) : true = pageQ p many := (decide_eq_true h).symm
theorem kids_at {p : PgL} {n : Int} (h : PageOk p n) {i : Nat} (hi : i < p.kids.length) : 0 ≤ p.kids[i] ∧ (p.leaf = false → p.kids[i] < n) := ⟨h.kid _ (List.getElem_mem hi), fun hl => h.kidn hl _ (List.getElem_mem hi)⟩
theorem page_all {p : PgL} {many : Int} (f1 : p.keys.length ≤ 4) (f2 : p.high.length ≤ 100) (f3 : -1 ≤ p.next) (f4 : p.next < many) (f5 : (p.next < 0 ↔ p.high = [])) (f6 : (p.leaf = true → p.kids.length = p.keys.length)) (f7 : (p.leaf = false → p.kids.length = p.keys.length + 1 ∧ p.keys.length ≠ 0)) (hk : ∀ j, j < p.keys.length → KeyAt p j) (hc : ∀ j (hj : j < p.kids.length), 0 ≤ p.kids[j] ∧ (p.leaf = false → p.kids[j] < many)) : PageOk p many := by
 refine ⟨f1, f2, f3, f4, f5, f6, fun h => ⟨(f7 h).1, fun e => (f7 h).2 (by rw [e]; rfl)⟩, fun k h => ?_, fun hne k h => ?_, rise_adj fun i hi h0 => (hk i hi hi).2.1 h0, fun n h => ?_, fun hl n h => ?_⟩
 ·obtain ⟨i, hi, rfl⟩ := List.mem_iff_getElem.1 h
  have := (hk i hi hi).1
  unfold keyQ at this
  have := of_decide_eq_true this
  omega
 ·obtain ⟨i, hi, rfl⟩ := List.mem_iff_getElem.1 h
  exact (hk i hi hi).2.2 hne
 ·obtain ⟨i, hi, rfl⟩ := List.mem_iff_getElem.1 h
  exact (hc i hi).1
 ·obtain ⟨i, hi, rfl⟩ := List.mem_iff_getElem.1 h
  exact (hc i hi).2 hl

set_option maxHeartbeats 4000000 in
set_option maxRecDepth 100000 in
theorem page_vp (p : PgL) (many : Int) (hkl : p.keys.length ≤ maxLen) (hil : p.kids.length ≤ maxLen) : VP Try.prog G 33 [.agg (cP p), .v (.int .i64 many)] (.v (.bool (pageQ p many))) := by
 refine VC.body Try.func33 rfl Try.ntmps33 (Nat.le_of_ble_eq_true rfl) fun X0 w0 S00 => ?_
 unfold cP
 have hmx : maxLen = 9223372036854775807 := rfl
 refine sr_ ?_
 refine OD.box (ds := [_, _, _, _, _]) (wants_plain rfl) rfl rfl ot rfl rfl (fun b2 => ?_)
 refine os_ mv_ ?_
 refine OD.wk (Wk.as_ (n := 132) (l' := [(1, _), (2, _)]) (S' := [⟨b2, 44, 5, [_, _, _, _, _]⟩]) rfl rfl ⟨lk, lk, trivial⟩) ?_
 refine OD.nil ?_
 refine CD.seq ?_
 refine sr_ ?_
 refine os_ (fa_ 1) ?_
 refine os_ (lb_ 0) ?_
 refine os_ ln_ ?_
 refine os_ bn_ ?_
 refine os_ mv_ ?_
 refine OD.split (t := 13) lk (fun hg13 => ?_) (fun hg13 => ?_)
 ·have hg13' := hg13; (try simp only [V.cnd, ne_eq] at hg13')
  refine sk_ ?_
  refine sk_ ?_
  refine sk_ ?_
  refine sk_ ?_
  refine os_ pkT_ ?_
  refine os_ mv_ ?_
  refine sk_ ?_
  refine sk_ ?_
  refine sk_ ?_
  refine os_ pkT_ ?_
  refine os_ mv_ ?_
  refine sk_ ?_
  refine sk_ ?_
  refine sk_ ?_
  refine sk_ ?_
  refine os_ pkT_ ?_
  refine os_ mv_ ?_
  refine sk_ ?_
  refine sk_ ?_
  refine sk_ ?_
  refine sk_ ?_
  refine sk_ ?_
  refine sk_ ?_
  refine sk_ ?_
  refine sk_ ?_
  refine os_ pkT_ ?_
  refine nm_ [1, 2, 39] ?_
  refine CD.condT ot (by first | rfl | assumption) ?_
  refine sr_ ?_
  refine os_ mv_ ?_
  refine nm_ [4] ?_
  refine CD.ret ?_
  refine r1_ ?_
  refine ⟨vb (pageQ_no fun hp => ?_), rfl⟩
  have g1 := hp.few; have g2 := hp.hlen; have g3 := hp.nlow; have g4 := hp.nhigh; have g5 := hp.nend; have g6 := hp.leaf; have g7 := fun h => (hp.node h).1; have g8 := fun h (e : p.keys.length = 0) => (hp.node h).2 (List.length_eq_zero_iff.1 e)
  clear hp
  first | omega | (rw [b_iff g5] at hc0; cases hc0; done) | (have := g6 hg42; omega) | (have hlf : p.leaf = false := (by simpa using hg55); have := g7 hlf; omega) | (have hlf : p.leaf = false := (by simpa using hg55); exact g8 hlf (by omega))
 ·have hg13' := hg13; (try simp only [V.cnd, ne_eq] at hg13')
  refine os_ (fa_ 3) ?_
  refine os_ (lb_ 0) ?_
  refine os_ ln_ ?_
  refine os_ bn_ ?_
  refine os_ pkF_ ?_
  refine os_ mv_ ?_
  refine OD.split (t := 19) lk (fun hg19 => ?_) (fun hg19 => ?_)
  ·have hg19' := hg19; (try simp only [V.cnd, ne_eq] at hg19')
   refine sk_ ?_
   refine sk_ ?_
   refine sk_ ?_
   refine os_ pkT_ ?_
   refine os_ mv_ ?_
   refine sk_ ?_
   refine sk_ ?_
   refine sk_ ?_
   refine sk_ ?_
   refine os_ pkT_ ?_
   refine os_ mv_ ?_
   refine sk_ ?_
   refine sk_ ?_
   refine sk_ ?_
   refine sk_ ?_
   refine sk_ ?_
   refine sk_ ?_
   refine sk_ ?_
   refine sk_ ?_
   refine os_ pkT_ ?_
   refine nm_ [1, 2, 39] ?_
   refine CD.condT ot (by first | rfl | assumption) ?_
   refine sr_ ?_
   refine os_ mv_ ?_
   refine nm_ [4] ?_
   refine CD.ret ?_
   refine r1_ ?_
   refine ⟨vb (pageQ_no fun hp => ?_), rfl⟩
   have g1 := hp.few; have g2 := hp.hlen; have g3 := hp.nlow; have g4 := hp.nhigh; have g5 := hp.nend; have g6 := hp.leaf; have g7 := fun h => (hp.node h).1; have g8 := fun h (e : p.keys.length = 0) => (hp.node h).2 (List.length_eq_zero_iff.1 e)
   clear hp
   first | omega | (rw [b_iff g5] at hc0; cases hc0; done) | (have := g6 hg42; omega) | (have hlf : p.leaf = false := (by simpa using hg55); have := g7 hlf; omega) | (have hlf : p.leaf = false := (by simpa using hg55); exact g8 hlf (by omega))
  ·have hg19' := hg19; (try simp only [V.cnd, ne_eq] at hg19')
   refine os_ (fa_ 4) ?_
   refine os_ (lb_ 0) ?_
   refine os_ bn_ ?_
   refine os_ pkF_ ?_
   refine os_ mv_ ?_
   refine OD.split (t := 24) lk (fun hg24 => ?_) (fun hg24 => ?_)
   ·have hg24' := hg24; (try simp only [V.cnd, ne_eq] at hg24')
    refine sk_ ?_
    refine sk_ ?_
    refine sk_ ?_
    refine sk_ ?_
    refine os_ pkT_ ?_
    refine os_ mv_ ?_
    refine sk_ ?_
    refine sk_ ?_
    refine sk_ ?_
    refine sk_ ?_
    refine sk_ ?_
    refine sk_ ?_
    refine sk_ ?_
    refine sk_ ?_
    refine os_ pkT_ ?_
    refine nm_ [1, 2, 39] ?_
    refine CD.condT ot (by first | rfl | assumption) ?_
    refine sr_ ?_
    refine os_ mv_ ?_
    refine nm_ [4] ?_
    refine CD.ret ?_
    refine r1_ ?_
    refine ⟨vb (pageQ_no fun hp => ?_), rfl⟩
    have g1 := hp.few; have g2 := hp.hlen; have g3 := hp.nlow; have g4 := hp.nhigh; have g5 := hp.nend; have g6 := hp.leaf; have g7 := fun h => (hp.node h).1; have g8 := fun h (e : p.keys.length = 0) => (hp.node h).2 (List.length_eq_zero_iff.1 e)
    clear hp
    first | omega | (rw [b_iff g5] at hc0; cases hc0; done) | (have := g6 hg42; omega) | (have hlf : p.leaf = false := (by simpa using hg55); have := g7 hlf; omega) | (have hlf : p.leaf = false := (by simpa using hg55); exact g8 hlf (by omega))
   ·have hg24' := hg24; (try simp only [V.cnd, ne_eq] at hg24')
    refine os_ (fa_ 4) ?_
    refine os_ (lb_ 0) ?_
    refine os_ mv_ ?_
    refine os_ bn_ ?_
    refine os_ pkF_ ?_
    refine os_ mv_ ?_
    refine OD.split (t := 30) lk (fun hg30 => ?_) (fun hg30 => ?_)
    ·have hg30' := hg30; (try simp only [V.cnd, ne_eq] at hg30')
     refine sk_ ?_
     refine sk_ ?_
     refine sk_ ?_
     refine sk_ ?_
     refine sk_ ?_
     refine sk_ ?_
     refine sk_ ?_
     refine sk_ ?_
     refine os_ pkT_ ?_
     refine nm_ [1, 2, 39] ?_
     refine CD.condT ot (by first | rfl | assumption) ?_
     refine sr_ ?_
     refine os_ mv_ ?_
     refine nm_ [4] ?_
     refine CD.ret ?_
     refine r1_ ?_
     refine ⟨vb (pageQ_no fun hp => ?_), rfl⟩
     have g1 := hp.few; have g2 := hp.hlen; have g3 := hp.nlow; have g4 := hp.nhigh; have g5 := hp.nend; have g6 := hp.leaf; have g7 := fun h => (hp.node h).1; have g8 := fun h (e : p.keys.length = 0) => (hp.node h).2 (List.length_eq_zero_iff.1 e)
     clear hp
     first | omega | (rw [b_iff g5] at hc0; cases hc0; done) | (have := g6 hg42; omega) | (have hlf : p.leaf = false := (by simpa using hg55); have := g7 hlf; omega) | (have hlf : p.leaf = false := (by simpa using hg55); exact g8 hlf (by omega))
    ·have hg30' := hg30; (try simp only [V.cnd, ne_eq] at hg30')
     refine os_ (fa_ 4) ?_
     refine os_ (lb_ 0) ?_
     refine os_ bn_ ?_
     refine os_ (fa_ 3) ?_
     refine os_ (lb_ 0) ?_
     refine os_ ln_ ?_
     refine os_ bn_ ?_
     refine OD.still (wants_T rfl rfl rfl lk (by first | rfl | assumption)) rfl (still_bin rfl ot ot (bin_bneq Try.underlying4)) ?_
     refine os_ pkF_ ?_
     refine OD.wk (Wk.as_ (n := 132) (l' := [(1, _), (2, _), (39, _)]) (S' := [⟨b2, 44, 5, [_, _, _, _, _]⟩]) rfl rfl ⟨lk, lk, lk, trivial⟩) ?_
     refine OD.nil ?_
     refine CD.cond ot (fun hc0 => ?_) (fun hc0 => ?_)
     ·have hc0' := hc0
      (try simp only [V.cnd, ne_eq] at hc0')
      refine sr_ ?_
      refine os_ mv_ ?_
      refine nm_ [4] ?_
      refine CD.ret ?_
      refine r1_ ?_
      refine ⟨vb (pageQ_no fun hp => ?_), rfl⟩
      have g1 := hp.few; have g2 := hp.hlen; have g3 := hp.nlow; have g4 := hp.nhigh; have g5 := hp.nend; have g6 := hp.leaf; have g7 := fun h => (hp.node h).1; have g8 := fun h (e : p.keys.length = 0) => (hp.node h).2 (List.length_eq_zero_iff.1 e)
      clear hp
      first | omega | (rw [b_iff g5] at hc0; cases hc0; done) | (have := g6 hg42; omega) | (have hlf : p.leaf = false := (by simpa using hg55); have := g7 hlf; omega) | (have hlf : p.leaf = false := (by simpa using hg55); exact g8 hlf (by omega))
     ·have hc0' := hc0
      (try simp only [V.cnd, ne_eq] at hc0')
      refine CD.skip ?_
      refine CD.cut (fun y__ => (p.keys.length ≤ 4) ∧ (p.high.length ≤ 100) ∧ (-1 ≤ p.next) ∧ (p.next < many) ∧ ((p.next < 0 ↔ p.high = [])) ∧ ((p.leaf = true → p.kids.length = p.keys.length)) ∧ ((p.leaf = false → p.kids.length = p.keys.length + 1 ∧ p.keys.length ≠ 0)) ∧ y__ = (⟨132, [(1, .v (.int .i64 many)), (2, .v (.pointer (some ⟨b2, 0, none⟩)))], [⟨b2, 44, 5, cP p⟩]⟩ : St)) ?_ ?_
      ·skip
       refine sr_ ?_
       refine os_ (fa_ 0) ?_
       refine os_ (lb_ 0) ?_
       refine os_ mv_ ?_
       refine OD.split (t := 42) lk (fun hg42 => ?_) (fun hg42 => ?_)
       ·have hg42' := hg42; (try simp only [V.cnd, ne_eq] at hg42')
        refine os_ (fa_ 2) ?_
        refine os_ (lb_ 0) ?_
        refine os_ ln_ ?_
        refine os_ (fa_ 1) ?_
        refine os_ (lb_ 0) ?_
        refine os_ ln_ ?_
        refine os_ bn_ ?_
        refine os_ pkT_ ?_
        refine os_ mv_ ?_
        refine OD.split (t := 51) lk (fun hg51 => ?_) (fun hg51 => ?_)
        ·have hg51' := hg51; (try simp only [V.cnd, ne_eq] at hg51')
         refine sk_ ?_
         refine sk_ ?_
         refine sk_ ?_
         refine sk_ ?_
         refine sj_ ?_
         refine sj_ ?_
         refine sj_ ?_
         refine sj_ ?_
         refine sj_ ?_
         refine sj_ ?_
         refine sj_ ?_
         refine sj_ ?_
         refine sj_ ?_
         refine sj_ ?_
         refine sj_ ?_
         refine sj_ ?_
         refine sj_ ?_
         refine sj_ ?_
         refine sk_ ?_
         refine os_ pkT_ ?_
         refine nm_ [1, 2, 71] ?_
         refine CD.condT ot (by first | rfl | assumption) ?_
         refine sr_ ?_
         refine os_ mv_ ?_
         refine nm_ [4] ?_
         refine CD.ret ?_
         refine r1_ ?_
         refine ⟨vb (pageQ_no fun hp => ?_), rfl⟩
         have g1 := hp.few; have g2 := hp.hlen; have g3 := hp.nlow; have g4 := hp.nhigh; have g5 := hp.nend; have g6 := hp.leaf; have g7 := fun h => (hp.node h).1; have g8 := fun h (e : p.keys.length = 0) => (hp.node h).2 (List.length_eq_zero_iff.1 e)
         clear hp
         first | omega | (rw [b_iff g5] at hc0; cases hc0; done) | (have := g6 hg42; omega) | (have hlf : p.leaf = false := (by simpa using hg55); have := g7 hlf; omega) | (have hlf : p.leaf = false := (by simpa using hg55); exact g8 hlf (by omega))
        ·have hg51' := hg51; (try simp only [V.cnd, ne_eq] at hg51')
         refine os_ (fa_ 0) ?_
         refine os_ (lb_ 0) ?_
         refine os_ un_ ?_
         refine os_ mv_ ?_
         refine OD.split (t := 55) lk (fun hg55 => ?_) (fun hg55 => ?_)
         ·exact absurd hg55 (by rw [hg42]; decide)
         ·have hg55' := hg55; (try simp only [V.cnd, ne_eq] at hg55')
          refine sk_ ?_
          refine sk_ ?_
          refine sk_ ?_
          refine sk_ ?_
          refine sk_ ?_
          refine sk_ ?_
          refine sk_ ?_
          refine sk_ ?_
          refine sk_ ?_
          refine sj_ ?_
          refine sj_ ?_
          refine sj_ ?_
          refine sj_ ?_
          refine sk_ ?_
          refine os_ pkF_ ?_
          refine os_ pkF_ ?_
          refine nm_ [1, 2, 71] ?_
          refine CD.condF ot (by first | rfl | assumption) ?_
          refine CD.skip ?_
          refine ⟨(⟨132, [(1, .v (.int .i64 many)), (2, .v (.pointer (some ⟨b2, 0, none⟩)))], [⟨b2, 44, 5, cP p⟩]⟩ : St), Wk.asS (n := 132) rfl (by repeat (first | exact List.Sublist.refl _ | apply List.Sublist.cons)) ⟨lq_, lq_, trivial⟩, (by omega), (by omega), (by omega), (by omega), (iff_b hc0), (fun _ => by omega), (fun h => absurd hg42 (by rw [h]; decide)), rfl⟩
       ·have hg42' := hg42; (try simp only [V.cnd, ne_eq] at hg42')
        refine sk_ ?_
        refine sk_ ?_
        refine sk_ ?_
        refine sk_ ?_
        refine sk_ ?_
        refine sk_ ?_
        refine sk_ ?_
        refine os_ pkF_ ?_
        refine os_ mv_ ?_
        refine os_ (fa_ 0) ?_
        refine os_ (lb_ 0) ?_
        refine os_ un_ ?_
        refine os_ mv_ ?_
        refine OD.split (t := 55) lk (fun hg55 => ?_) (fun hg55 => ?_)
        ·have hg55' := hg55; (try simp only [V.cnd, ne_eq] at hg55')
         refine os_ (fa_ 2) ?_
         refine os_ (lb_ 0) ?_
         refine os_ ln_ ?_
         refine os_ (fa_ 1) ?_
         refine os_ (lb_ 0) ?_
         refine os_ ln_ ?_
         refine os_ bn_ ?_
         refine os_ bn_ ?_
         refine os_ mv_ ?_
         refine OD.split (t := 64) lk (fun hg64 => ?_) (fun hg64 => ?_)
         ·have hg64' := hg64; (try simp only [V.cnd, ne_eq] at hg64')
          refine sk_ ?_
          refine sk_ ?_
          refine sk_ ?_
          refine sk_ ?_
          refine os_ pkT_ ?_
          refine os_ pkT_ ?_
          refine os_ pkF_ ?_
          refine nm_ [1, 2, 71] ?_
          refine CD.condT ot (by first | rfl | assumption) ?_
          refine sr_ ?_
          refine os_ mv_ ?_
          refine nm_ [4] ?_
          refine CD.ret ?_
          refine r1_ ?_
          refine ⟨vb (pageQ_no fun hp => ?_), rfl⟩
          have g1 := hp.few; have g2 := hp.hlen; have g3 := hp.nlow; have g4 := hp.nhigh; have g5 := hp.nend; have g6 := hp.leaf; have g7 := fun h => (hp.node h).1; have g8 := fun h (e : p.keys.length = 0) => (hp.node h).2 (List.length_eq_zero_iff.1 e)
          clear hp
          first | omega | (rw [b_iff g5] at hc0; cases hc0; done) | (have := g6 hg42; omega) | (have hlf : p.leaf = false := (by simpa using hg55); have := g7 hlf; omega) | (have hlf : p.leaf = false := (by simpa using hg55); exact g8 hlf (by omega))
         ·have hg64' := hg64; (try simp only [V.cnd, ne_eq] at hg64')
          refine os_ (fa_ 1) ?_
          refine os_ (lb_ 0) ?_
          refine os_ ln_ ?_
          refine os_ bn_ ?_
          refine os_ pkF_ ?_
          refine os_ pkT_ ?_
          refine os_ pkF_ ?_
          refine nm_ [1, 2, 71] ?_
          refine CD.cond ot (fun hc1 => ?_) (fun hc1 => ?_)
          ·have hc1' := hc1
           (try simp only [V.cnd, ne_eq] at hc1')
           refine sr_ ?_
           refine os_ mv_ ?_
           refine nm_ [4] ?_
           refine CD.ret ?_
           refine r1_ ?_
           refine ⟨vb (pageQ_no fun hp => ?_), rfl⟩
           have g1 := hp.few; have g2 := hp.hlen; have g3 := hp.nlow; have g4 := hp.nhigh; have g5 := hp.nend; have g6 := hp.leaf; have g7 := fun h => (hp.node h).1; have g8 := fun h (e : p.keys.length = 0) => (hp.node h).2 (List.length_eq_zero_iff.1 e)
           clear hp
           first | omega | (rw [b_iff g5] at hc0; cases hc0; done) | (have := g6 hg42; omega) | (have hlf : p.leaf = false := (by simpa using hg55); have := g7 hlf; omega) | (have hlf : p.leaf = false := (by simpa using hg55); exact g8 hlf (by omega))
          ·have hc1' := hc1
           (try simp only [V.cnd, ne_eq] at hc1')
           refine CD.skip ?_
           refine ⟨(⟨132, [(1, .v (.int .i64 many)), (2, .v (.pointer (some ⟨b2, 0, none⟩)))], [⟨b2, 44, 5, cP p⟩]⟩ : St), Wk.asS (n := 132) rfl (by repeat (first | exact List.Sublist.refl _ | apply List.Sublist.cons)) ⟨lq_, lq_, trivial⟩, (by omega), (by omega), (by omega), (by omega), (iff_b hc0), (fun h => absurd hg42 (by rw [h]; decide)), (fun _ => ⟨by omega, by omega⟩), rfl⟩
        ·exact absurd hg55 (by rw [hg42]; decide)
      rintro _ ⟨f1, f2, f3, f4, f5, f6, f7, rfl⟩
      refine CD.seq ?_
      refine sr_ ?_
      refine os_ (fa_ 1) ?_
      refine os_ (lb_ 0) ?_
      refine os_ ln_ ?_
      refine os_ mv_ ?_
      refine nm_ [1, 2, 73, 74, 75] ?_
      refine CD.block ?_
      refine CD.wk (Wk.asS (n := 132) (l' := [(1, .v (.int .i64 many)), (2, .v (.pointer (some ⟨b2, 0, none⟩))), (73, .list 1 (p.keys.flatMap cK) p.keys.length), (74, .v (.int .i64 (p.keys.length : Nat))), (75, .v (.int .i64 ((0) : Nat)))]) (S' := [⟨b2, 44, 5, cP p⟩]) rfl (by repeat (first | exact List.Sublist.refl _ | apply List.Sublist.cons)) ⟨lq_, lq_, lq_, lq_, lq_, trivial⟩) (CD.loop (fun (i : Nat) y__ => (i ≤ p.keys.length) ∧ (∀ j, j < i → KeyAt p j) ∧ y__ = (⟨132, [(1, .v (.int .i64 many)), (2, .v (.pointer (some ⟨b2, 0, none⟩))), (73, .list 1 (p.keys.flatMap cK) p.keys.length), (74, .v (.int .i64 (p.keys.length : Nat))), (75, .v (.int .i64 (i : Nat)))], [⟨b2, 44, 5, cP p⟩]⟩ : St)) (fun (i : Nat) => p.keys.length - i) 0 ⟨(Nat.zero_le _), (fun j h => by omega), rfl⟩ ?_)
      rintro i _ ⟨hi, hk0, rfl⟩
      refine sr_ ?_
      refine os_ bn_ ?_
      refine nm_ [1, 2, 73, 74, 75, 76] ?_
      refine CD.seq ?_
      refine CD.cond ot (fun hc2 => ?_) (fun hc2 => ?_)
      ·have hc2' := hc2
       (try simp only [V.cnd, ne_eq] at hc2')
       have hlt : i < p.keys.length := by omega
       refine CD.skip ?_
       refine CD.seq ?_
       refine CD.block ?_
       refine sr_ ?_
       refine os_ mv_ ?_
       refine os_ (ix_ 1) ?_
       refine os_ ld_ ?_
       refine os_ mv_ ?_
       refine os_ mv_ ?_
       refine nm_ [1, 2, 5, 6, 73, 74, 75] ?_
       refine sr_ ?_
       refine os_ mv_ ?_
       refine OD.callP (wants_plain rfl) rfl rfl rfl Try.call38 (key_vp p.keys[i]) ⟨ot, trivial⟩ ?_
       refine os_ un_ ?_
       refine os_ mv_ ?_
       refine OD.split (t := 83) lk (fun hg83 => ?_) (fun hg83 => ?_)
       ·have hg83' := hg83; (try simp only [V.cnd, ne_eq] at hg83')
        refine sk_ ?_
        refine sk_ ?_
        refine sk_ ?_
        refine sj_ ?_
        refine sj_ ?_
        refine sj_ ?_
        refine sj_ ?_
        refine sj_ ?_
        refine sj_ ?_
        refine sj_ ?_
        refine sj_ ?_
        refine sj_ ?_
        refine sk_ ?_
        refine os_ pkT_ ?_
        refine os_ mv_ ?_
        refine sk_ ?_
        refine sk_ ?_
        refine sk_ ?_
        refine sk_ ?_
        refine sk_ ?_
        refine sj_ ?_
        refine sj_ ?_
        refine sj_ ?_
        refine sj_ ?_
        refine sj_ ?_
        refine sk_ ?_
        refine os_ pkT_ ?_
        refine OD.wk (Wk.as_ (n := 132) (l' := [(1, _), (2, _), (73, _), (74, _), (75, _), (110, _)]) (S' := [⟨b2, 44, 5, [_, _, _, _, _]⟩]) rfl rfl ⟨lk, lk, lk, lk, lk, lk, trivial⟩) ?_
        refine OD.nil ?_
        refine CD.condT ot (by first | rfl | assumption) ?_
        have hbad : ¬ KeyAt p i := fun hk => by obtain ⟨k1, k2, k3⟩ := hk hlt; unfold klt at k2 k3; first | (rw [k1] at hg83; cases hg83; done) | (have := k2 (by omega); omega) | (have := k3 (len_ne hg103); have hx := of_decide_eq_true hc3; omega)
        refine sr_ ?_
        refine os_ mv_ ?_
        refine nm_ [4] ?_
        refine CD.ret ?_
        refine r1_ ?_
        refine ⟨vb (pageQ_no fun hp => ?_), rfl⟩
        exact hbad (keys_at hp i)
       ·have hg83' := hg83; (try simp only [V.cnd, ne_eq] at hg83')
        refine os_ mv_ ?_
        refine os_ bn_ ?_
        refine os_ mv_ ?_
        refine OD.split (t := 86) lk (fun hg86 => ?_) (fun hg86 => ?_)
        ·have hg86' := hg86; (try simp only [V.cnd, ne_eq] at hg86')
         refine os_ (fa_ 1) ?_
         refine os_ (lb_ 0) ?_
         refine os_ mv_ ?_
         refine os_ bn_ ?_
         refine os_ (ix_ 1 (h := by first | exact .l (j := i - 1) (by omega) (by omega) | exact .r (j := i - 1) (by omega) (by omega))) ?_
         refine os_ ld_ ?_
         refine os_ mv_ ?_
         refine OD.callP (wants_T rfl rfl rfl lk (by first | rfl | assumption)) rfl rfl rfl Try.call32 (cmp_vp (p.keys[i - 1]'(by omega)) p.keys[i]) ⟨ot, ot, trivial⟩ ?_
         refine os_ bn_ ?_
         refine os_ pkT_ ?_
         refine os_ pkF_ ?_
         refine os_ mv_ ?_
         refine OD.split (t := 98) lk (fun hg98 => ?_) (fun hg98 => ?_)
         ·have hg98' := hg98; (try simp only [V.cnd, ne_eq] at hg98')
          refine sk_ ?_
          refine sk_ ?_
          refine sk_ ?_
          refine sk_ ?_
          refine sk_ ?_
          refine sj_ ?_
          refine sj_ ?_
          refine sj_ ?_
          refine sj_ ?_
          refine sj_ ?_
          refine sk_ ?_
          refine os_ pkT_ ?_
          refine OD.wk (Wk.as_ (n := 132) (l' := [(1, _), (2, _), (73, _), (74, _), (75, _), (110, _)]) (S' := [⟨b2, 44, 5, [_, _, _, _, _]⟩]) rfl rfl ⟨lk, lk, lk, lk, lk, lk, trivial⟩) ?_
          refine OD.nil ?_
          refine CD.condT ot (by first | rfl | assumption) ?_
          have hbad : ¬ KeyAt p i := fun hk => by obtain ⟨k1, k2, k3⟩ := hk hlt; unfold klt at k2 k3; first | (rw [k1] at hg83; cases hg83; done) | (have := k2 (by omega); omega) | (have := k3 (len_ne hg103); have hx := of_decide_eq_true hc3; omega)
          refine sr_ ?_
          refine os_ mv_ ?_
          refine nm_ [4] ?_
          refine CD.ret ?_
          refine r1_ ?_
          refine ⟨vb (pageQ_no fun hp => ?_), rfl⟩
          exact hbad (keys_at hp i)
         ·have hg98' := hg98; (try simp only [V.cnd, ne_eq] at hg98')
          refine os_ (fa_ 3) ?_
          refine os_ (lb_ 0) ?_
          refine os_ ln_ ?_
          refine os_ bn_ ?_
          refine os_ mv_ ?_
          refine OD.split (t := 103) lk (fun hg103 => ?_) (fun hg103 => ?_)
          ·have hg103' := hg103; (try simp only [V.cnd, ne_eq] at hg103')
           refine os_ mv_ ?_
           refine os_ (fa_ 3) ?_
           refine os_ (lb_ 0) ?_
           refine OD.callP (wants_T rfl rfl rfl lk (by first | rfl | assumption)) rfl rfl rfl Try.call32 (cmp_vp p.keys[i] p.high) ⟨ot, ot, trivial⟩ ?_
           refine os_ bn_ ?_
           refine os_ pkT_ ?_
           refine os_ pkF_ ?_
           refine OD.wk (Wk.as_ (n := 132) (l' := [(1, _), (2, _), (73, _), (74, _), (75, _), (110, _)]) (S' := [⟨b2, 44, 5, [_, _, _, _, _]⟩]) rfl rfl ⟨lk, lk, lk, lk, lk, lk, trivial⟩) ?_
           refine OD.nil ?_
           refine CD.cond ot (fun hc3 => ?_) (fun hc3 => ?_)
           ·have hc3' := hc3
            (try simp only [V.cnd, ne_eq] at hc3')
            have hbad : ¬ KeyAt p i := fun hk => by obtain ⟨k1, k2, k3⟩ := hk hlt; unfold klt at k2 k3; first | (rw [k1] at hg83; cases hg83; done) | (have := k2 (by omega); omega) | (have := k3 (len_ne hg103); have hx := of_decide_eq_true hc3; omega)
            refine sr_ ?_
            refine os_ mv_ ?_
            refine nm_ [4] ?_
            refine CD.ret ?_
            refine r1_ ?_
            refine ⟨vb (pageQ_no fun hp => ?_), rfl⟩
            exact hbad (keys_at hp i)
           ·have hc3' := hc3
            (try simp only [V.cnd, ne_eq] at hc3')
            have hK : KeyAt p i := fun _ => ⟨by simpa using hg83, fun h0 => by unfold klt; first | (exfalso; omega) | (have hx := of_decide_eq_false hg98; omega), fun hne => by first | exact absurd (len_nil hg103) hne | (unfold klt; have hx := of_decide_eq_false hc3; omega)⟩
            refine CD.skip ?_
            refine CD.region ?_
            refine os_ bn_ ?_
            refine os_ mv_ ?_
            refine nm_ [1, 2, 73, 74, 75] ?_
            refine ⟨(i + 1), ⟨132, [(1, .v (.int .i64 many)), (2, .v (.pointer (some ⟨b2, 0, none⟩))), (73, .list 1 (p.keys.flatMap cK) p.keys.length), (74, .v (.int .i64 (p.keys.length : Nat))), (75, .v (.int .i64 (((i + 1)) : Nat)))], [⟨b2, 44, 5, cP p⟩]⟩, ?_, Wk.asS (n := 132) rfl (by repeat (first | exact List.Sublist.refl _ | apply List.Sublist.cons)) ⟨lq_, lq_, lq_, lq_, lq_, trivial⟩, (by omega), (fun j hj => by rcases Nat.lt_or_ge j i with h | h; exact hk0 j h; obtain rfl : j = i := (by omega); exact hK), rfl⟩
            first | omega | (simp only []; omega)
          ·have hg103' := hg103; (try simp only [V.cnd, ne_eq] at hg103')
           refine sk_ ?_
           refine sk_ ?_
           refine sk_ ?_
           refine sk_ ?_
           refine sk_ ?_
           refine os_ pkF_ ?_
           refine os_ pkF_ ?_
           refine OD.wk (Wk.as_ (n := 132) (l' := [(1, _), (2, _), (73, _), (74, _), (75, _), (110, _)]) (S' := [⟨b2, 44, 5, [_, _, _, _, _]⟩]) rfl rfl ⟨lk, lk, lk, lk, lk, lk, trivial⟩) ?_
           refine OD.nil ?_
           refine CD.condF ot (by first | rfl | assumption) ?_
           have hK : KeyAt p i := fun _ => ⟨by simpa using hg83, fun h0 => by unfold klt; first | (exfalso; omega) | (have hx := of_decide_eq_false hg98; omega), fun hne => by first | exact absurd (len_nil hg103) hne | (unfold klt; have hx := of_decide_eq_false hc3; omega)⟩
           refine CD.skip ?_
           refine CD.region ?_
           refine os_ bn_ ?_
           refine os_ mv_ ?_
           refine nm_ [1, 2, 73, 74, 75] ?_
           refine ⟨(i + 1), ⟨132, [(1, .v (.int .i64 many)), (2, .v (.pointer (some ⟨b2, 0, none⟩))), (73, .list 1 (p.keys.flatMap cK) p.keys.length), (74, .v (.int .i64 (p.keys.length : Nat))), (75, .v (.int .i64 (((i + 1)) : Nat)))], [⟨b2, 44, 5, cP p⟩]⟩, ?_, Wk.asS (n := 132) rfl (by repeat (first | exact List.Sublist.refl _ | apply List.Sublist.cons)) ⟨lq_, lq_, lq_, lq_, lq_, trivial⟩, (by omega), (fun j hj => by rcases Nat.lt_or_ge j i with h | h; exact hk0 j h; obtain rfl : j = i := (by omega); exact hK), rfl⟩
           first | omega | (simp only []; omega)
        ·have hg86' := hg86; (try simp only [V.cnd, ne_eq] at hg86')
         refine sk_ ?_
         refine sk_ ?_
         refine sk_ ?_
         refine sk_ ?_
         refine sk_ ?_
         refine sk_ ?_
         refine sk_ ?_
         refine sk_ ?_
         refine sk_ ?_
         refine os_ pkF_ ?_
         refine os_ pkF_ ?_
         refine os_ mv_ ?_
         refine os_ (fa_ 3) ?_
         refine os_ (lb_ 0) ?_
         refine os_ ln_ ?_
         refine os_ bn_ ?_
         refine os_ mv_ ?_
         refine OD.split (t := 103) lk (fun hg103 => ?_) (fun hg103 => ?_)
         ·have hg103' := hg103; (try simp only [V.cnd, ne_eq] at hg103')
          refine os_ mv_ ?_
          refine os_ (fa_ 3) ?_
          refine os_ (lb_ 0) ?_
          refine OD.callP (wants_T rfl rfl rfl lk (by first | rfl | assumption)) rfl rfl rfl Try.call32 (cmp_vp p.keys[i] p.high) ⟨ot, ot, trivial⟩ ?_
          refine os_ bn_ ?_
          refine os_ pkT_ ?_
          refine os_ pkF_ ?_
          refine OD.wk (Wk.as_ (n := 132) (l' := [(1, _), (2, _), (73, _), (74, _), (75, _), (110, _)]) (S' := [⟨b2, 44, 5, [_, _, _, _, _]⟩]) rfl rfl ⟨lk, lk, lk, lk, lk, lk, trivial⟩) ?_
          refine OD.nil ?_
          refine CD.cond ot (fun hc3 => ?_) (fun hc3 => ?_)
          ·have hc3' := hc3
           (try simp only [V.cnd, ne_eq] at hc3')
           have hbad : ¬ KeyAt p i := fun hk => by obtain ⟨k1, k2, k3⟩ := hk hlt; unfold klt at k2 k3; first | (rw [k1] at hg83; cases hg83; done) | (have := k2 (by omega); omega) | (have := k3 (len_ne hg103); have hx := of_decide_eq_true hc3; omega)
           refine sr_ ?_
           refine os_ mv_ ?_
           refine nm_ [4] ?_
           refine CD.ret ?_
           refine r1_ ?_
           refine ⟨vb (pageQ_no fun hp => ?_), rfl⟩
           exact hbad (keys_at hp i)
          ·have hc3' := hc3
           (try simp only [V.cnd, ne_eq] at hc3')
           have hK : KeyAt p i := fun _ => ⟨by simpa using hg83, fun h0 => by unfold klt; first | (exfalso; omega) | (have hx := of_decide_eq_false hg98; omega), fun hne => by first | exact absurd (len_nil hg103) hne | (unfold klt; have hx := of_decide_eq_false hc3; omega)⟩
           refine CD.skip ?_
           refine CD.region ?_
           refine os_ bn_ ?_
           refine os_ mv_ ?_
           refine nm_ [1, 2, 73, 74, 75] ?_
           refine ⟨(i + 1), ⟨132, [(1, .v (.int .i64 many)), (2, .v (.pointer (some ⟨b2, 0, none⟩))), (73, .list 1 (p.keys.flatMap cK) p.keys.length), (74, .v (.int .i64 (p.keys.length : Nat))), (75, .v (.int .i64 (((i + 1)) : Nat)))], [⟨b2, 44, 5, cP p⟩]⟩, ?_, Wk.asS (n := 132) rfl (by repeat (first | exact List.Sublist.refl _ | apply List.Sublist.cons)) ⟨lq_, lq_, lq_, lq_, lq_, trivial⟩, (by omega), (fun j hj => by rcases Nat.lt_or_ge j i with h | h; exact hk0 j h; obtain rfl : j = i := (by omega); exact hK), rfl⟩
           first | omega | (simp only []; omega)
         ·have hg103' := hg103; (try simp only [V.cnd, ne_eq] at hg103')
          refine sk_ ?_
          refine sk_ ?_
          refine sk_ ?_
          refine sk_ ?_
          refine sk_ ?_
          refine os_ pkF_ ?_
          refine os_ pkF_ ?_
          refine OD.wk (Wk.as_ (n := 132) (l' := [(1, _), (2, _), (73, _), (74, _), (75, _), (110, _)]) (S' := [⟨b2, 44, 5, [_, _, _, _, _]⟩]) rfl rfl ⟨lk, lk, lk, lk, lk, lk, trivial⟩) ?_
          refine OD.nil ?_
          refine CD.condF ot (by first | rfl | assumption) ?_
          have hK : KeyAt p i := fun _ => ⟨by simpa using hg83, fun h0 => by unfold klt; first | (exfalso; omega) | (have hx := of_decide_eq_false hg98; omega), fun hne => by first | exact absurd (len_nil hg103) hne | (unfold klt; have hx := of_decide_eq_false hc3; omega)⟩
          refine CD.skip ?_
          refine CD.region ?_
          refine os_ bn_ ?_
          refine os_ mv_ ?_
          refine nm_ [1, 2, 73, 74, 75] ?_
          refine ⟨(i + 1), ⟨132, [(1, .v (.int .i64 many)), (2, .v (.pointer (some ⟨b2, 0, none⟩))), (73, .list 1 (p.keys.flatMap cK) p.keys.length), (74, .v (.int .i64 (p.keys.length : Nat))), (75, .v (.int .i64 (((i + 1)) : Nat)))], [⟨b2, 44, 5, cP p⟩]⟩, ?_, Wk.asS (n := 132) rfl (by repeat (first | exact List.Sublist.refl _ | apply List.Sublist.cons)) ⟨lq_, lq_, lq_, lq_, lq_, trivial⟩, (by omega), (fun j hj => by rcases Nat.lt_or_ge j i with h | h; exact hk0 j h; obtain rfl : j = i := (by omega); exact hK), rfl⟩
          first | omega | (simp only []; omega)
      ·have hc2' := hc2
       (try simp only [V.cnd, ne_eq] at hc2')
       have hkall : ∀ j, j < p.keys.length → KeyAt p j := fun j hj => hk0 j (by omega)
       refine CD.exit ?_
       refine CD.seq ?_
       refine sr_ ?_
       refine os_ (fa_ 2) ?_
       refine os_ (lb_ 0) ?_
       refine os_ ln_ ?_
       refine os_ mv_ ?_
       refine nm_ [1, 2, 113, 114, 115] ?_
       refine CD.block ?_
       refine CD.wk (Wk.asS (n := 132) (l' := [(1, .v (.int .i64 many)), (2, .v (.pointer (some ⟨b2, 0, none⟩))), (113, .list 1 (p.kids.flatMap cI) p.kids.length), (114, .v (.int .i64 (p.kids.length : Nat))), (115, .v (.int .i64 ((0) : Nat)))]) (S' := [⟨b2, 44, 5, cP p⟩]) rfl (by repeat (first | exact List.Sublist.refl _ | apply List.Sublist.cons)) ⟨lq_, lq_, lq_, lq_, lq_, trivial⟩) (CD.loop (fun (i : Nat) y__ => (i ≤ p.kids.length) ∧ (∀ j (_ : j < i) (hj : j < p.kids.length), 0 ≤ p.kids[j] ∧ (p.leaf = false → p.kids[j] < many)) ∧ y__ = (⟨132, [(1, .v (.int .i64 many)), (2, .v (.pointer (some ⟨b2, 0, none⟩))), (113, .list 1 (p.kids.flatMap cI) p.kids.length), (114, .v (.int .i64 (p.kids.length : Nat))), (115, .v (.int .i64 (i : Nat)))], [⟨b2, 44, 5, cP p⟩]⟩ : St)) (fun (i : Nat) => p.kids.length - i) 0 ⟨(Nat.zero_le _), (fun j h => by omega), rfl⟩ ?_)
       rintro i _ ⟨hi1, hl1, rfl⟩
       refine sr_ ?_
       refine os_ bn_ ?_
       refine nm_ [1, 2, 113, 114, 115, 116] ?_
       refine CD.seq ?_
       refine CD.cond ot (fun hc4 => ?_) (fun hc4 => ?_)
       ·have hc4' := hc4
        (try simp only [V.cnd, ne_eq] at hc4')
        have hlt : i < p.kids.length := by omega
        refine CD.skip ?_
        refine CD.seq ?_
        refine CD.block ?_
        refine sr_ ?_
        refine os_ (ix_ 1) ?_
        refine os_ ld_ ?_
        refine os_ mv_ ?_
        refine nm_ [1, 2, 8, 113, 114, 115] ?_
        refine sr_ ?_
        refine os_ mv_ ?_
        refine os_ bn_ ?_
        refine os_ mv_ ?_
        refine OD.split (t := 121) lk (fun hg121 => ?_) (fun hg121 => ?_)
        ·have hg121' := hg121; (try simp only [V.cnd, ne_eq] at hg121')
         refine sk_ ?_
         refine sk_ ?_
         refine sk_ ?_
         refine sk_ ?_
         refine sj_ ?_
         refine sj_ ?_
         refine sj_ ?_
         refine sk_ ?_
         refine os_ pkT_ ?_
         refine nm_ [1, 2, 113, 114, 115, 130] ?_
         refine CD.condT ot (by first | rfl | assumption) ?_
         have hbad : ¬ (0 ≤ p.kids[i] ∧ (p.leaf = false → p.kids[i] < many)) := fun hk => by obtain ⟨k1, k2⟩ := hk; first | (have hx := of_decide_eq_true hg121; omega) | (have := k2 (by simpa using hg125); have hx := of_decide_eq_true hc5; omega)
         refine sr_ ?_
         refine os_ mv_ ?_
         refine nm_ [4] ?_
         refine CD.ret ?_
         refine r1_ ?_
         refine ⟨vb (pageQ_no fun hp => ?_), rfl⟩
         exact hbad (kids_at hp hlt)
        ·have hg121' := hg121; (try simp only [V.cnd, ne_eq] at hg121')
         refine os_ (fa_ 0) ?_
         refine os_ (lb_ 0) ?_
         refine os_ un_ ?_
         refine os_ mv_ ?_
         refine OD.split (t := 125) lk (fun hg125 => ?_) (fun hg125 => ?_)
         ·have hg125' := hg125; (try simp only [V.cnd, ne_eq] at hg125')
          refine os_ mv_ ?_
          refine os_ mv_ ?_
          refine os_ bn_ ?_
          refine os_ pkT_ ?_
          refine os_ pkF_ ?_
          refine nm_ [1, 2, 113, 114, 115, 130] ?_
          refine CD.cond ot (fun hc5 => ?_) (fun hc5 => ?_)
          ·have hc5' := hc5
           (try simp only [V.cnd, ne_eq] at hc5')
           have hbad : ¬ (0 ≤ p.kids[i] ∧ (p.leaf = false → p.kids[i] < many)) := fun hk => by obtain ⟨k1, k2⟩ := hk; first | (have hx := of_decide_eq_true hg121; omega) | (have := k2 (by simpa using hg125); have hx := of_decide_eq_true hc5; omega)
           refine sr_ ?_
           refine os_ mv_ ?_
           refine nm_ [4] ?_
           refine CD.ret ?_
           refine r1_ ?_
           refine ⟨vb (pageQ_no fun hp => ?_), rfl⟩
           exact hbad (kids_at hp hlt)
          ·have hc5' := hc5
           (try simp only [V.cnd, ne_eq] at hc5')
           have hC : 0 ≤ p.kids[i] ∧ (p.leaf = false → p.kids[i] < many) := ⟨by have hx := of_decide_eq_false hg121; omega, fun hl => by first | (rw [hl] at hg125; cases hg125; done) | (have hx := of_decide_eq_false hc5; omega)⟩
           refine CD.skip ?_
           refine CD.region ?_
           refine os_ bn_ ?_
           refine os_ mv_ ?_
           refine nm_ [1, 2, 113, 114, 115] ?_
           refine ⟨(i + 1), ⟨132, [(1, .v (.int .i64 many)), (2, .v (.pointer (some ⟨b2, 0, none⟩))), (113, .list 1 (p.kids.flatMap cI) p.kids.length), (114, .v (.int .i64 (p.kids.length : Nat))), (115, .v (.int .i64 (((i + 1)) : Nat)))], [⟨b2, 44, 5, cP p⟩]⟩, ?_, Wk.asS (n := 132) rfl (by repeat (first | exact List.Sublist.refl _ | apply List.Sublist.cons)) ⟨lq_, lq_, lq_, lq_, lq_, trivial⟩, (by omega), (fun j hj hl => by rcases Nat.lt_or_ge j i with h | h; exact hl1 j h hl; obtain rfl : j = i := (by omega); exact hC), rfl⟩
           first | omega | (simp only []; omega)
         ·have hg125' := hg125; (try simp only [V.cnd, ne_eq] at hg125')
          refine sk_ ?_
          refine sk_ ?_
          refine sk_ ?_
          refine os_ pkF_ ?_
          refine os_ pkF_ ?_
          refine nm_ [1, 2, 113, 114, 115, 130] ?_
          refine CD.condF ot (by first | rfl | assumption) ?_
          have hC : 0 ≤ p.kids[i] ∧ (p.leaf = false → p.kids[i] < many) := ⟨by have hx := of_decide_eq_false hg121; omega, fun hl => by first | (rw [hl] at hg125; cases hg125; done) | (have hx := of_decide_eq_false hc5; omega)⟩
          refine CD.skip ?_
          refine CD.region ?_
          refine os_ bn_ ?_
          refine os_ mv_ ?_
          refine nm_ [1, 2, 113, 114, 115] ?_
          refine ⟨(i + 1), ⟨132, [(1, .v (.int .i64 many)), (2, .v (.pointer (some ⟨b2, 0, none⟩))), (113, .list 1 (p.kids.flatMap cI) p.kids.length), (114, .v (.int .i64 (p.kids.length : Nat))), (115, .v (.int .i64 (((i + 1)) : Nat)))], [⟨b2, 44, 5, cP p⟩]⟩, ?_, Wk.asS (n := 132) rfl (by repeat (first | exact List.Sublist.refl _ | apply List.Sublist.cons)) ⟨lq_, lq_, lq_, lq_, lq_, trivial⟩, (by omega), (fun j hj hl => by rcases Nat.lt_or_ge j i with h | h; exact hl1 j h hl; obtain rfl : j = i := (by omega); exact hC), rfl⟩
          first | omega | (simp only []; omega)
       ·have hc4' := hc4
        (try simp only [V.cnd, ne_eq] at hc4')
        refine CD.exit ?_
        refine sr_ ?_
        refine os_ mv_ ?_
        refine nm_ [4] ?_
        refine CD.ret ?_
        refine r1_ ?_
        refine ⟨vb (pageQ_yes (page_all f1 f2 f3 f4 f5 f6 f7 hkall fun j hj => hl1 j (by omega) hj)), rfl⟩

end Go.Proofs.Ythnobhekodiciaa.Tw

namespace Go.Proofs.Ythnobhekodiciaa.Tw
open Go.RowKit V Go.Proofs.Ythnobhekodiciaa.Tr Pk
set_option linter.unusedVariables false
set_option linter.unusedSimpArgs false

open Go.Lib (compareBytes)
def foundQ (keys : List K) (k : K) : Bool := decide (keys[downN keys k]? = some k)
theorem downN_eq {keys : List K} {k : K} {i : Nat} (hi : i ≤ keys.length) (h1 : ∀ m (hm : m < keys.length), m < i → klt keys[m] k) (h2 : ∀ m (hm : m < keys.length), i ≤ m → ¬ klt keys[m] k) : downN keys k = i := by
 have hle := downN_le keys k
 rcases Nat.lt_trichotomy (downN keys k) i with h | h | h
 ·have hlt : downN keys k < keys.length := by omega
  exact absurd (h1 _ hlt h) (downN_end hlt)
 ·exact h
 ·obtain ⟨h', q⟩ := downN_at h
  exact absurd q (h2 _ h' (Nat.le_refl _))
theorem upto_down {keys : List K} (hr : keys.Pairwise klt) (k : K) : uptoN keys k = if foundQ keys k = true then downN keys k + 1 else downN keys k := by
 have hle := downN_le keys k
 split
 ·rename_i hf
  unfold foundQ at hf
  have hf := of_decide_eq_true hf
  obtain ⟨hlt, he⟩ := List.getElem?_eq_some_iff.1 hf
  refine upto_eq hr (by omega) (fun _ => ?_) (fun h => ?_)
  ·show ¬ klt k (keys[downN keys k + 1 - 1]'(by omega))
   simp only [Nat.add_sub_cancel, he]; exact klt_irr k
  ·have := rise_at hr (Nat.lt_succ_self (downN keys k)) h
   rw [he] at this; exact this
 ·rename_i hf
  refine upto_eq hr hle (fun h0 => ?_) (fun h => ?_)
  ·exact klt_as (downN_at (by omega : downN keys k - 1 < downN keys k)).2
  ·have h1 := downN_end h
   rcases klt_or keys[downN keys k] k with h2 | h2 | h2
   ·exact absurd h2 h1
   ·exfalso; apply hf; unfold foundQ; rw [List.getElem?_eq_getElem h, h2]; simp
   ·exact h2
theorem fdiv2 {a : Nat} : ((a : Nat) : Int).fdiv (2 ^ min (1 : Int).toNat IntKind.u64.bits) = ((a / 2 : Nat) : Int) := by
 rw [show min (1 : Int).toNat IntKind.u64.bits = 1 from rfl, Int.fdiv_eq_ediv_of_nonneg _ (by decide)]; rfl
variable {G : List (Nat × List Value)}

theorem bs_hit {keys : List K} {k : K} {i : Nat} (hd : downN keys k = i) (hi : i < keys.length) : (D.tup [.v (.int .i64 (i : Nat)), .v (.bool (compareBytes keys[i] k == 0))]) = .tup [.v (.int .i64 (downN keys k : Nat)), .v (.bool (foundQ keys k))] ∧ ([] : List Blk) = [] := by
 subst hd
 refine ⟨?_, rfl⟩
 have : (compareBytes keys[downN keys k] k == 0) = foundQ keys k := by
  unfold foundQ
  rw [List.getElem?_eq_getElem hi]
  by_cases h : keys[downN keys k] = k
  ·have := cb_eq.2 h; rw [this]; simp [h]
  ·have : ¬ compareBytes keys[downN keys k] k = 0 := fun e => h (cb_eq.1 e)
   simp [h, this]
 rw [this]
theorem bs_miss {keys : List K} {k : K} {i : Nat} (hd : downN keys k = i) (hi : keys.length ≤ i) : (D.tup [.v (.int .i64 (i : Nat)), .v (.bool false)]) = .tup [.v (.int .i64 (downN keys k : Nat)), .v (.bool (foundQ keys k))] ∧ ([] : List Blk) = [] := by
 subst hd
 refine ⟨?_, rfl⟩
 have : foundQ keys k = false := by unfold foundQ; rw [List.getElem?_eq_none hi]; rfl
 rw [this]

set_option maxHeartbeats 4000000 in
set_option maxRecDepth 100000 in
theorem search_vp (keys : List K) (k : K) (hr : keys.Pairwise klt) (hl : keys.length ≤ 1000) : VP Try.prog G 41 [.list 1 (keys.flatMap cK) keys.length, .list 1 (k.flatMap cB) k.length, .clo (.func 32) []] (.tup [.v (.int .i64 (downN keys k : Nat)), .v (.bool (foundQ keys k))]) := by
 refine VC.body Try.func41 rfl Try.ntmps41 (Nat.le_of_ble_eq_true rfl) fun X0 w0 S00 => ?_
 have hmx : maxLen = 9223372036854775807 := rfl
 refine sr_ ?_
 refine os_ mv_ ?_
 refine os_ mv_ ?_
 refine nm_ [0, 1, 2] ?_
 refine sr_ ?_
 refine os_ mv_ ?_
 refine os_ ln_ ?_
 refine os_ mv_ ?_
 refine nm_ [0, 1, 2, 8] ?_
 refine sr_ ?_
 refine os_ mv_ ?_
 refine os_ mv_ ?_
 refine os_ mv_ ?_
 refine nm_ [0, 1, 2, 8, 9, 10] ?_
 refine CD.seq ?_
 refine CD.block ?_
 refine CD.wk (Wk.asS (n := 49) (l' := [(0, .list 1 (keys.flatMap cK) keys.length), (1, .list 1 (k.flatMap cB) k.length), (2, .clo (.func 32) []), (8, .v (.int .i64 (keys.length : Nat))), (9, .v (.int .i64 ((0) : Nat))), (10, .v (.int .i64 ((keys.length) : Nat)))]) (S' := []) rfl (by repeat (first | exact List.Sublist.refl _ | apply List.Sublist.cons)) ⟨lq_, lq_, lq_, lq_, lq_, lq_, trivial⟩) (CD.loop (fun (gh__ : Nat × Nat) y__ => match gh__ with | (i, j) => (i ≤ j) ∧ (j ≤ keys.length) ∧ (∀ m (hm : m < keys.length), m < i → klt keys[m] k) ∧ (∀ m (hm : m < keys.length), j ≤ m → ¬ klt keys[m] k) ∧ y__ = (⟨49, [(0, .list 1 (keys.flatMap cK) keys.length), (1, .list 1 (k.flatMap cB) k.length), (2, .clo (.func 32) []), (8, .v (.int .i64 (keys.length : Nat))), (9, .v (.int .i64 (i : Nat))), (10, .v (.int .i64 (j : Nat)))], []⟩ : St)) (fun (gh__ : Nat × Nat) => match gh__ with | (i, j) => j - i) (0, keys.length) ⟨(Nat.zero_le _), (Nat.le_refl _), (fun m hm h => by omega), (fun m hm h => by omega), rfl⟩ ?_)
 rintro ⟨i, j⟩ _ ⟨hij, hjn, h1, h2, rfl⟩
 refine CD.seq ?_
 refine sr_ ?_
 refine os_ mv_ ?_
 refine os_ mv_ ?_
 refine os_ bn_ ?_
 refine nm_ [0, 1, 2, 8, 9, 10, 17] ?_
 refine CD.cond ot (fun hc0 => ?_) (fun hc0 => ?_)
 ·have hc0' := hc0
  (try simp only [V.cnd, ne_eq] at hc0')
  have hlt : i < j := by omega
  have hmid : ((i + j) / 2) < keys.length := by omega
  refine CD.skip ?_
  refine CD.block ?_
  refine sr_ ?_
  refine os_ mv_ ?_
  refine os_ mv_ ?_
  refine OD.still (wants_plain rfl) rfl (still_bin rfl ot ot (bin_add (r := ((i + j : Nat) : Int)) (by rw [← Int.natCast_add]; exact wrap_i64 (by omega) (by omega)))) ?_
  refine OD.still (wants_plain rfl) rfl (still_conv rfl ot (conv_int (r := ((i + j : Nat) : Int)) Try.runUnderlying3 Try.runUnderlying92 (IntWalk.u64_in _ (by omega)))) ?_
  refine OD.still (wants_plain rfl) rfl (still_bin rfl ot opd_const (bin_shr (by decide) fdiv2)) ?_
  refine OD.still (wants_plain rfl) rfl (still_conv rfl ot (conv_int (r := ((((i + j) / 2) : Nat) : Int)) Try.runUnderlying92 Try.runUnderlying3 (wrap_i64 (by omega) (by omega)))) ?_
  refine os_ mv_ ?_
  refine OD.wk (Wk.as_ (n := 49) (l' := [(0, _), (1, _), (2, _), (8, _), (9, _), (10, _), (11, _)]) (S' := []) rfl rfl ⟨lk, lk, lk, lk, lk, lk, lk, trivial⟩) ?_
  refine OD.nil ?_
  refine sr_ ?_
  refine os_ mv_ ?_
  refine os_ mv_ ?_
  refine os_ mv_ ?_
  refine os_ (ix_ 1 (h := by first | exact .l (j := ((i + j) / 2)) rfl hmid | exact .r (j := ((i + j) / 2)) rfl hmid)) ?_
  refine os_ ld_ ?_
  refine os_ mv_ ?_
  refine OD.callv (f := 32) (args := [_, _]) (all := [_, _]) (Sf := []) (wants_plain rfl) rfl rfl ot Try.call32 (cmp_vp (keys[((i + j) / 2)]'hmid) k) rfl ⟨ot, ot, trivial⟩ (perm_none _) ?_; rintro _ _ ⟨rfl, rfl⟩
  refine os_ bn_ ?_
  refine OD.wk (Wk.as_ (n := 49) (l' := [(0, _), (1, _), (2, _), (8, _), (9, _), (10, _), (11, _), (31, _)]) (S' := []) rfl rfl ⟨lk, lk, lk, lk, lk, lk, lk, lk, trivial⟩) ?_
  refine OD.nil ?_
  refine CD.cond ot (fun hc1 => ?_) (fun hc1 => ?_)
  ·have hc1' := hc1
   (try simp only [V.cnd, ne_eq] at hc1')
   have hc : klt (keys[((i + j) / 2)]'hmid) k := of_decide_eq_true hc1
   have hlow : ∀ m (hm : m < keys.length), m < ((i + j) / 2) + 1 → klt keys[m] k := fun m hm h => by (rcases Nat.lt_or_ge m ((i + j) / 2) with q | q); exact klt_tr (rise_at hr q hmid) hc; (have : m = ((i + j) / 2) := by omega); subst this; exact hc
   refine CD.region ?_
   refine os_ mv_ ?_
   refine os_ bn_ ?_
   refine os_ mv_ ?_
   refine nm_ [0, 1, 2, 8, 9, 10] ?_
   refine ⟨((((i + j) / 2) + 1), j), ⟨49, [(0, .list 1 (keys.flatMap cK) keys.length), (1, .list 1 (k.flatMap cB) k.length), (2, .clo (.func 32) []), (8, .v (.int .i64 (keys.length : Nat))), (9, .v (.int .i64 (((((i + j) / 2) + 1)) : Nat))), (10, .v (.int .i64 (j : Nat)))], []⟩, ?_, Wk.asS (n := 49) rfl (by repeat (first | exact List.Sublist.refl _ | apply List.Sublist.cons)) ⟨lq_, lq_, lq_, lq_, lq_, lq_, trivial⟩, (by omega), (by omega), (fun m hm h => by rcases Nat.lt_or_ge m i with q | q; exact h1 m hm q; exact hlow m hm (by omega)), h2, rfl⟩
   first | omega | (simp only []; omega)
  ·have hc1' := hc1
   (try simp only [V.cnd, ne_eq] at hc1')
   have hc : ¬ klt (keys[((i + j) / 2)]'hmid) k := of_decide_eq_false hc1
   have hhigh : ∀ m (hm : m < keys.length), ((i + j) / 2) ≤ m → ¬ klt keys[m] k := fun m hm h hh => by (rcases Nat.lt_or_ge ((i + j) / 2) m with q | q); exact hc (klt_tr (rise_at hr q hm) hh); (have : m = ((i + j) / 2) := by omega); subst this; exact hc hh
   refine CD.region ?_
   refine os_ mv_ ?_
   refine os_ mv_ ?_
   refine nm_ [0, 1, 2, 8, 9, 10] ?_
   refine ⟨(i, ((i + j) / 2)), ⟨49, [(0, .list 1 (keys.flatMap cK) keys.length), (1, .list 1 (k.flatMap cB) k.length), (2, .clo (.func 32) []), (8, .v (.int .i64 (keys.length : Nat))), (9, .v (.int .i64 (i : Nat))), (10, .v (.int .i64 ((((i + j) / 2)) : Nat)))], []⟩, ?_, Wk.asS (n := 49) rfl (by repeat (first | exact List.Sublist.refl _ | apply List.Sublist.cons)) ⟨lq_, lq_, lq_, lq_, lq_, lq_, trivial⟩, (by omega), (by omega), h1, hhigh, rfl⟩
   first | omega | (simp only []; omega)
 ·have hc0' := hc0
  (try simp only [V.cnd, ne_eq] at hc0')
  obtain rfl : i = j := by omega
  have hd := downN_eq hjn h1 h2
  refine CD.exit ?_
  refine sr_ ?_
  refine os_ mv_ ?_
  refine os_ mv_ ?_
  refine os_ mv_ ?_
  refine os_ bn_ ?_
  refine os_ mv_ ?_
  refine OD.split (t := 39) lk (fun hg39 => ?_) (fun hg39 => ?_)
  ·have hg39' := hg39; (try simp only [V.cnd, ne_eq] at hg39')
   refine os_ mv_ ?_
   refine os_ mv_ ?_
   refine os_ mv_ ?_
   refine os_ (ix_ 1) ?_
   refine os_ ld_ ?_
   refine os_ mv_ ?_
   refine OD.callv (f := 32) (args := [_, _]) (all := [_, _]) (Sf := []) (wants_T rfl rfl rfl lk (by first | rfl | assumption)) rfl rfl ot Try.call32 (cmp_vp (keys[i]'(by omega)) k) rfl ⟨ot, ot, trivial⟩ (perm_none _) ?_; rintro _ _ ⟨rfl, rfl⟩
   refine os_ bn_ ?_
   refine os_ pkT_ ?_
   refine os_ mv_ ?_
   refine os_ mv_ ?_
   refine OD.wk (Wk.as_ (n := 49) (l' := [(6, _), (7, _)]) (S' := []) rfl rfl ⟨lk, lk, trivial⟩) ?_
   refine OD.nil ?_
   refine CD.ret ?_
   refine ⟨.inr rfl, _, [], List.nil_sublist _, ret_two Try.results41 (res_tmp (Nat.le_of_ble_eq_true rfl) lk) (res_tmp (Nat.le_of_ble_eq_true rfl) lk), ?_⟩
   first | exact bs_hit hd (by omega) | exact bs_miss hd (by omega)
  ·have hg39' := hg39; (try simp only [V.cnd, ne_eq] at hg39')
   refine sk_ ?_
   refine sk_ ?_
   refine sk_ ?_
   refine sk_ ?_
   refine sk_ ?_
   refine sk_ ?_
   refine sk_ ?_
   refine sk_ ?_
   refine os_ pkF_ ?_
   refine os_ mv_ ?_
   refine os_ mv_ ?_
   refine nm_ [6, 7] ?_
   refine CD.ret ?_
   refine r2_ ?_
   first | exact bs_hit hd (by omega) | exact bs_miss hd (by omega)

set_option maxHeartbeats 4000000 in
set_option maxRecDepth 100000 in
theorem place_vp (p : PgL) (k : K) (hr : p.keys.Pairwise klt) (hl : p.keys.length ≤ 1000) : VP Try.prog G 27 [.agg (cP p), .list 1 (k.flatMap cB) k.length] (.v (.int .i64 (placeF p k : Nat))) := by
 refine VC.body Try.func27 rfl Try.ntmps27 (Nat.le_of_ble_eq_true rfl) fun X0 w0 S00 => ?_
 unfold cP
 have hmx : maxLen = 9223372036854775807 := rfl
 have hdl := downN_le p.keys k
 have hud := upto_down hr k
 refine sr_ ?_
 refine OD.box (ds := [_, _, _, _, _]) (wants_plain rfl) rfl rfl ot rfl rfl (fun b2 => ?_)
 refine os_ mv_ ?_
 refine OD.wk (Wk.as_ (n := 23) (l' := [(1, _), (2, _)]) (S' := [⟨b2, 44, 5, [_, _, _, _, _]⟩]) rfl rfl ⟨lk, lk, trivial⟩) ?_
 refine OD.nil ?_
 refine sr_ ?_
 refine os_ (fa_ 1) ?_
 refine os_ (lb_ 0) ?_
 refine os_ mv_ ?_
 refine OD.callP (wants_plain rfl) rfl rfl rfl Try.call41 (search_vp p.keys k hr hl) ⟨ot, ot, opd_func, trivial⟩ ?_
 refine os_ mv_ ?_
 refine os_ ex_ ?_
 refine os_ ex_ ?_
 refine os_ mv_ ?_
 refine os_ mv_ ?_
 refine OD.wk (Wk.as_ (n := 23) (l' := [(2, _), (5, _), (6, _)]) (S' := [⟨b2, 44, 5, [_, _, _, _, _]⟩]) rfl rfl ⟨lk, lk, lk, trivial⟩) ?_
 refine OD.nil ?_
 refine CD.seq ?_
 refine sr_ ?_
 refine os_ mv_ ?_
 refine os_ mv_ ?_
 refine OD.split (t := 15) lk (fun hg15 => ?_) (fun hg15 => ?_)
 ·have hg15' := hg15; (try simp only [V.cnd, ne_eq] at hg15')
  refine os_ (fa_ 0) ?_
  refine os_ (lb_ 0) ?_
  refine os_ un_ ?_
  refine os_ pkT_ ?_
  refine nm_ [5, 19] ?_
  refine CD.cond ot (fun hc0 => ?_) (fun hc0 => ?_)
  ·have hc0' := hc0
   (try simp only [V.cnd, ne_eq] at hc0')
   refine CD.region ?_
   refine os_ mv_ ?_
   refine os_ bn_ ?_
   refine os_ mv_ ?_
   refine nm_ [5] ?_
   refine sr_ ?_
   refine os_ mv_ ?_
   refine os_ mv_ ?_
   refine nm_ [4] ?_
   refine CD.ret ?_
   refine r1_ ?_
   refine ⟨vi ?_, rfl⟩
   unfold placeF
   first | (rw [hg15] at hud; cases hlf : p.leaf <;> simp_all; done) | (simp_all; done) | (simp_all; omega)
  ·have hc0' := hc0
   (try simp only [V.cnd, ne_eq] at hc0')
   refine CD.skip ?_
   refine sr_ ?_
   refine os_ mv_ ?_
   refine os_ mv_ ?_
   refine nm_ [4] ?_
   refine CD.ret ?_
   refine r1_ ?_
   refine ⟨vi ?_, rfl⟩
   unfold placeF
   first | (rw [hg15] at hud; cases hlf : p.leaf <;> simp_all; done) | (simp_all; done) | (simp_all; omega)
 ·have hg15' := hg15; (try simp only [V.cnd, ne_eq] at hg15')
  refine sk_ ?_
  refine sk_ ?_
  refine sk_ ?_
  refine os_ pkF_ ?_
  refine nm_ [5, 19] ?_
  refine CD.condF ot (by first | rfl | assumption) ?_
  refine CD.skip ?_
  refine sr_ ?_
  refine os_ mv_ ?_
  refine os_ mv_ ?_
  refine nm_ [4] ?_
  refine CD.ret ?_
  refine r1_ ?_
  refine ⟨vi ?_, rfl⟩
  unfold placeF
  first | (rw [hg15] at hud; cases hlf : p.leaf <;> simp_all; done) | (simp_all; done) | (simp_all; omega)

end Go.Proofs.Ythnobhekodiciaa.Tw

namespace Go.Proofs.Ythnobhekodiciaa.Tw
open Go.RowKit V Go.Proofs.Ythnobhekodiciaa.Tr Pk
set_option linter.unusedVariables false
set_option linter.unusedSimpArgs false

open Go.Lib (compareBytes)
theorem leaf_zero {t : TreeL} {d : Nat} {i : Int} {lo hi : K} (ok : OkT t d i lo hi) (h : (t.pg i).leaf = true) : d = 0 := by
 cases d with
 | zero => rfl
 | succ d => obtain ⟨_, q2, _⟩ := ok; rw [q2] at h; cases h
theorem leaf_succ {t : TreeL} {d : Nat} {i : Int} {lo hi : K} (ok : OkT t d i lo hi) (h : (t.pg i).leaf = false) : ∃ d', d = d' + 1 := by
 cases d with
 | zero => obtain ⟨_, q2, _⟩ := ok; rw [q2] at h; cases h
 | succ d => exact ⟨d, rfl⟩
variable {G : List (Nat × List Value)}

theorem info3_Tw3 : (Try.prog.info? 3).map (fun i => (i.zero, i.size, i.bytes)) = some (some (.int .i64 0), 1, 8) := by kernel_rfl

set_option maxHeartbeats 4000000 in
set_option maxRecDepth 100000 in
theorem path_vc (t : TreeL) (h : Nat) (v : Valid t h) (k : K) : VC Try.prog G 25 [.agg (cT t), .list 1 (k.flatMap cB) k.length] [] (RetL cI 3 1 (pathF t k h t.root)) := by
 refine VC.body Try.func25 rfl Try.ntmps25 (Nat.le_of_ble_eq_true rfl) fun X0 w0 S00 => ?_
 unfold cT
 have hmx : maxLen = 9223372036854775807 := rfl
 have hval := v
 have hhi := v.high
 have hmo := v.most
 refine sr_ ?_
 refine OD.box (ds := [_, _]) (wants_plain rfl) rfl rfl ot rfl rfl (fun b2 => ?_)
 refine os_ mv_ ?_
 refine OD.wk (Wk.as_ (n := 45) (l' := [(1, _), (2, _)]) (S' := [⟨b2, 26, 2, [_, _]⟩]) rfl rfl ⟨lk, lk, trivial⟩) ?_
 refine OD.nil ?_
 refine sr_ ?_
 refine os_ (fa_ 1) ?_
 refine os_ (lb_ 0) ?_
 refine OD.bldS (pl := numD 0 [_]) (zvs := [.int .i64 0]) (ds := [_]) (wants_plain rfl) rfl rfl Try.zeroValue3 Try.runUnderlying22 Try.sizeOf3 rfl rfl (by kernel_rfl) ⟨rfl, ot, trivial⟩ (by exact rfl) (fill_full (by exact rfl) (by exact rfl) (by exact rfl)) (fun b10 => ?_)
 refine OD.perm (perm_q11 (S1 := [⟨b10, 3, 1 * 1, List.flatMap cI ([t.root])⟩]) (A := [_])) ?_
 refine os_ mv_ ?_
 refine OD.wk (Wk.as_ (n := 45) (l' := [(1, _), (2, _), (5, _)]) (S' := (⟨b2, 26, 2, [_, _]⟩ :: [⟨b10, 3, 1 * 1, List.flatMap cI ([t.root])⟩])) rfl rfl ⟨lk, lk, lk, trivial⟩) ?_
 refine OD.nil ?_
 refine CD.block ?_
 refine CD.wk (Wk.asS (n := 45) (l' := [(1, .list 1 (k.flatMap cB) k.length), (2, .v (.pointer (some ⟨b2, 0, none⟩))), (5, .v (.slice ((some ⟨b10, 0, none⟩)) ((([]) ++ [(t.root)])).length (1)))]) (S' := (⟨b2, 26, 2, [.list 5 (t.pages.flatMap cP) t.pages.length, .v (.int .i64 t.root)]⟩ :: ([⟨b10, 3, 1 * 1, List.flatMap cI ([t.root])⟩]))) rfl (by repeat (first | exact List.Sublist.refl _ | apply List.Sublist.cons_cons | apply List.Sublist.cons)) ⟨(by (repeat (first | exact look_hit | (apply look_at; focus (first | rfl | (simp; done) | (congr 2; omega) | (apply row_eq; rw [hkid]) | (apply row_eq; simp; done))) | (apply look_miss; focus rfl))); done), (by (repeat (first | exact look_hit | (apply look_at; focus (first | rfl | (simp; done) | (congr 2; omega) | (apply row_eq; rw [hkid]) | (apply row_eq; simp; done))) | (apply look_miss; focus rfl))); done), (by (repeat (first | exact look_hit | (apply look_at; focus (first | rfl | (simp; done) | (congr 2; omega) | (apply row_eq; rw [hkid]) | (apply row_eq; simp; done))) | (apply look_miss; focus rfl))); done), trivial⟩) (CD.loop (fun (gh__ : Nat × Int × K × K × List Int × Option Addr × Nat × List Blk) y__ => match gh__ with | (d, i, lo, hi, pre, adl, cpl, Sl) => (OkT t d i lo hi) ∧ (inR lo hi k) ∧ (pre ++ pathF t k d i = pathF t k h t.root) ∧ (pre.length + d ≤ h) ∧ (OwnL 3 1 (((pre ++ [i])).flatMap cI) ((pre ++ [i])).length adl cpl Sl) ∧ y__ = (⟨45, [(1, .list 1 (k.flatMap cB) k.length), (2, .v (.pointer (some ⟨b2, 0, none⟩))), (5, .v (.slice adl ((pre ++ [i])).length cpl))], (⟨b2, 26, 2, [.list 5 (t.pages.flatMap cP) t.pages.length, .v (.int .i64 t.root)]⟩ :: Sl)⟩ : St)) (fun (gh__ : Nat × Int × K × K × List Int × Option Addr × Nat × List Blk) => match gh__ with | (d, i, lo, hi, pre, adl, cpl, Sl) => d) (h, t.root, [], [], [], (some ⟨b10, 0, none⟩), 1, [⟨b10, 3, 1 * 1, List.flatMap cI ([t.root])⟩]) ⟨v.ok, (inR_all k), (List.nil_append _), (by simp), (OwnL.cast (ownL_row (g := cI) (sz := 1) (e := 3) (ls := [t.root]) (Nat.le_refl _) (show 1 ≤ maxLen by decide)) (by first | rfl | simp)), rfl⟩ ?_)
 rintro ⟨d, i, lo, hi, pre, adl, cpl, Sl⟩ _ ⟨ok, hin, hpath, hpl, hol, rfl⟩
 obtain ⟨bl, rfl, hlle, hlcap, rfl⟩ := hol.pos (by simp)
 have q1 := ok.idx
 have hlt : i.toNat < t.pages.length := by omega
 have hpg : t.pg i = (t.pages[i.toNat]'hlt) := pg_at q1
 have po := v.page _ (pg_mem q1)
 have hhigh := ok.high
 rw [hpg] at po hhigh
 refine CD.block ?_
 refine sr_ ?_
 refine os_ mv_ ?_
 refine os_ mv_ ?_
 refine os_ ln_ ?_
 refine os_ bn_ ?_
 refine os_ (ix_ 1 (h := by first | exact .l (j := pre.length) (by simp) (by simp) | exact .r (j := pre.length) (by simp) (by simp))) ?_
 refine OD.still (wants_plain rfl) rfl (still_r1 (mk := Op.load 3) rfl ot (ld_row0 (k := 1) (d := .v (.int .i64 i)) (i := pre.length) cI_len rfl rfl rfl Try.isAgg3 (by simp) (by simp [cI]))) ?_
 refine os_ mv_ ?_
 refine OD.wk (Wk.as_ (n := 45) (l' := [(1, _), (2, _), (5, _), (6, _)]) (S' := (⟨b2, 26, 2, [_, _]⟩ :: [⟨bl, 3, cpl * 1, List.flatMap cI (pre ++ [i])⟩])) rfl rfl ⟨lk, lk, lk, lk, trivial⟩) ?_
 refine OD.nil ?_
 refine sr_ ?_
 refine os_ (fa_ 0) ?_
 refine os_ (lb_ 0) ?_
 refine os_ mv_ ?_
 refine os_ (ix_ 5 (h := by first | exact .l (j := i.toNat) (Int.toNat_of_nonneg q1.1).symm hlt | exact .r (j := i.toNat) (Int.toNat_of_nonneg q1.1).symm hlt)) ?_
 refine os_ (la_ [_, _, _, _, _]) ?_
 refine OD.alloc (ds := [_, _, _, _, _]) (wants_plain rfl) rfl rfl Try.zeroValue44 rfl (fun b7 => ?_)
 refine OD.store (k := 0) (cs' := [_, _, _, _, _]) (wants_plain rfl) rfl rfl ot rfl rfl ot rfl rfl Try.sizeOf44 rfl rfl rfl ?_
 refine OD.wk (Wk.as_ (n := 45) (l' := [(1, _), (2, _), (5, _), (7, _)]) (S' := (⟨b7, 44, 5, [_, _, _, _, _]⟩ :: ⟨b2, 26, 2, [_, _]⟩ :: [⟨bl, 3, cpl * 1, List.flatMap cI (pre ++ [i])⟩])) rfl rfl ⟨lk, lk, lk, lk, trivial⟩) ?_
 refine OD.nil ?_
 refine CD.seq ?_
 refine sr_ ?_
 refine os_ (lab_ 0 [_, _, _, _, _]) ?_
 refine os_ mv_ ?_
 refine OD.callP (wants_plain rfl) rfl rfl rfl Try.call40 (beyond_vp (t.pages[i.toNat]'hlt) k) ⟨ot, ot, trivial⟩ ?_
 refine OD.wk (Wk.as_ (n := 45) (l' := [(1, _), (2, _), (5, _), (7, _), (24, _)]) (S' := (⟨b7, 44, 5, [_, _, _, _, _]⟩ :: ⟨b2, 26, 2, [_, _]⟩ :: [⟨bl, 3, cpl * 1, List.flatMap cI (pre ++ [i])⟩])) rfl rfl ⟨lk, lk, lk, lk, lk, trivial⟩) ?_
 refine OD.nil ?_
 refine CD.cond ot (fun hc0 => ?_) (fun hc0 => ?_)
 ·exact absurd hc0 (by intro e; have e := of_decide_eq_true e; rw [hhigh] at e; exact e.2 (hin.2 e.1))
 ·have hc0' := hc0
  (try simp only [V.cnd, ne_eq] at hc0')
  refine CD.skip ?_
  refine CD.seq ?_
  refine sr_ ?_
  refine os_ (fa_ 0) ?_
  refine os_ (lb_ 0) ?_
  refine nm_ [1, 2, 5, 7, 33] ?_
  refine CD.cond ot (fun hc1 => ?_) (fun hc1 => ?_)
  ·have hc1' := hc1
   (try simp only [V.cnd, ne_eq] at hc1')
   obtain rfl := leaf_zero ok (by rw [hpg]; exact hc1)
   have hres : pre ++ [i] = pathF t k h t.root := by rw [← hpath]; rfl
   refine sr_ ?_
   refine os_ mv_ ?_
   refine os_ mv_ ?_
   refine nm_ [4] ?_
   refine CD.ret ?_
   refine ⟨.inr rfl, _, [⟨bl, 3, cpl * 1, List.flatMap cI (pre ++ [i])⟩], (by repeat (first | exact List.Sublist.refl _ | apply List.Sublist.cons)), ret_one Try.results25 (res_tmp (Nat.le_of_ble_eq_true rfl) lk), ?_⟩
   rw [← hres]; exact ⟨_, _, rfl, (ownL_row (g := cI) (ls := pre ++ [i]) hlle hlcap)⟩
  ·have hc1' := hc1
   (try simp only [V.cnd, ne_eq] at hc1')
   obtain ⟨dd, rfl⟩ := leaf_succ ok (by rw [hpg]; exact hc1)
   have ok0 := ok
   obtain ⟨_, hlf, hh, hlow, hok1⟩ := ok0
   obtain ⟨d1, d2⟩ := down (p := t.pg i) (by rw [hpg]; exact po) hlf hh hin
   have hok2 := hok1 _ d1
   rw [← getD_kid d1] at hok2
   have hin2 := d2
   have hpath2 : pre ++ [i] ++ pathF t k dd ((t.pg i).kids.getD (placeF (t.pg i) k) 0) = pathF t k h t.root := by rw [← hpath, List.append_assoc]; rfl
   have hpv := place_vp (G := G) (t.pg i) k (by rw [hpg]; exact po.rise) (by rw [hpg]; have := po.few; omega)
   have d1p : placeF (t.pages[i.toNat]'hlt) k < (t.pages[i.toNat]'hlt).kids.length := by rw [← hpg]; exact d1
   have hpvp : VP Try.prog G 27 [.agg (cP (t.pages[i.toNat]'hlt)), .list 1 (k.flatMap cB) k.length] (.v (.int .i64 (placeF (t.pages[i.toNat]'hlt) k : Nat))) := by rw [← hpg]; exact hpv
   have hkid : (t.pg i).kids.getD (placeF (t.pg i) k) 0 = (t.pages[i.toNat]'hlt).kids[placeF (t.pages[i.toNat]'hlt) k]'d1p := by rw [hpg]; exact getD_kid d1p
   refine CD.skip ?_
   refine CD.draw (bks (List.take 2 _)) (by kernel_rfl) (fun _ h => (List.Sublist.map _ (List.take_sublist _ _)).subset h) ?_
   refine a0_ 0 rfl mv_ ?_
   refine a0_ 1 rfl (fa_ 2) ?_
   refine a0_ 2 rfl (lb_ 0) ?_
   refine a0_ 3 rfl (lab_ 0 [_, _, _, _, _]) ?_
   refine a0_ 4 rfl mv_ ?_
   refine AD0.later rfl ?_
   refine AD.one (i := 5) (by kernel_rfl) ?_
   refine AStep.callP rfl (wants_plain rfl) rfl rfl rfl Try.call27 (hpvp) ⟨ot, ot, trivial⟩ ?_
   refine a1_ 6 rfl (ix_ 1 (h := by first | exact .l (j := placeF (t.pages[i.toNat]'hlt) k) rfl d1p | exact .r (j := placeF (t.pages[i.toNat]'hlt) k) rfl d1p)) ?_
   refine AD.one (i := 7) (by kernel_rfl) ?_
   refine at_ rfl ld_ ?_
   refine AD.one (i := 8) (by kernel_rfl) ?_
   refine AStep.bldS (pl := numD 0 [_]) (zvs := [.int .i64 0]) (ds := [_]) rfl (wants_plain rfl) rfl rfl Try.zeroValue3 Try.runUnderlying22 Try.sizeOf3 rfl rfl (by kernel_rfl) ⟨rfl, ot, trivial⟩ (by exact rfl) (fill_full (by exact rfl) (by exact rfl) (by exact rfl)) (fun b43 => ?_)
   refine AD.give (k := 0) (t := 43) (sz := 1) (m := 1) rfl lk rfl rfl rfl (Nat.le_refl _) (by decide) ?_
   refine AD.one (i := 9) (by kernel_rfl) ?_
   refine AStep.appendG (ls := (pre ++ [i])) (new := [(t.pages[i.toNat]'hlt).kids[placeF (t.pages[i.toNat]'hlt) k]'d1p]) (Sq := [⟨bl, 3, cpl * 1, List.flatMap cI (pre ++ [i])⟩]) cI_len cI_one rfl (wants_plain rfl) rfl rfl Try.underlying22 info3_Tw3 rfl (by decide) ot (ownL_row (g := cI) (ls := pre ++ [i]) hlle hlcap) (perm_r11 (A := [_, _])) ot (by simp) (by simp [maxLen]; omega) (by simp; omega) (fun b44 cp44 h144 h244 => ?_)
   refine AD.perm (perm_q11 (S1 := [⟨b44, 3, cp44 * 1, List.flatMap cI ((pre ++ [i]) ++ [(t.pages[i.toNat]'hlt).kids[placeF (t.pages[i.toNat]'hlt) k]'d1p])⟩]) (A := [_, _])) ?_
   refine a1_ 10 rfl mv_ ?_
   refine AD.wk (y := ⟨45, [(1, _), (2, _), (5, _)], (⟨b7, 44, 5, [_, _, _, _, _]⟩ :: ⟨b2, 26, 2, [_, _]⟩ :: [⟨b44, 3, cp44 * 1, List.flatMap cI ((pre ++ [i]) ++ [(t.pages[i.toNat]'hlt).kids[placeF (t.pages[i.toNat]'hlt) k]'d1p])⟩])⟩) (Wk.as_ rfl rfl ⟨lk, lk, lk, trivial⟩) rfl ?_
   refine AD.done (by kernel_rfl) ?_
   refine ⟨(dd, ((t.pg i).kids.getD (placeF (t.pg i) k) 0), (loK lo (t.pg i) (placeF (t.pg i) k)), (hiK (t.pg i) (placeF (t.pg i) k)), (pre ++ [i]), (some ⟨b44, 0, none⟩), cp44, [⟨b44, 3, cp44 * 1, List.flatMap cI ((pre ++ [i]) ++ [(t.pages[i.toNat]'hlt).kids[placeF (t.pages[i.toNat]'hlt) k]'d1p])⟩]), ⟨45, [(1, .list 1 (k.flatMap cB) k.length), (2, .v (.pointer (some ⟨b2, 0, none⟩))), (5, .v (.slice ((some ⟨b44, 0, none⟩)) ((((pre ++ [i])) ++ [(((t.pg i).kids.getD (placeF (t.pg i) k) 0))])).length cp44))], (⟨b2, 26, 2, [.list 5 (t.pages.flatMap cP) t.pages.length, .v (.int .i64 t.root)]⟩ :: ([⟨b44, 3, cp44 * 1, List.flatMap cI ((pre ++ [i]) ++ [(t.pages[i.toNat]'hlt).kids[placeF (t.pages[i.toNat]'hlt) k]'d1p])⟩]))⟩, ?_, Wk.asS (n := 45) rfl (by repeat (first | exact List.Sublist.refl _ | apply List.Sublist.cons_cons | apply List.Sublist.cons)) ⟨(by (repeat (first | exact look_hit | (apply look_at; focus (first | rfl | (simp; done) | (congr 2; omega) | (apply row_eq; rw [hkid]) | (apply row_eq; simp; done))) | (apply look_miss; focus rfl))); done), (by (repeat (first | exact look_hit | (apply look_at; focus (first | rfl | (simp; done) | (congr 2; omega) | (apply row_eq; rw [hkid]) | (apply row_eq; simp; done))) | (apply look_miss; focus rfl))); done), (by (repeat (first | exact look_hit | (apply look_at; focus (first | rfl | (simp; done) | (congr 2; omega) | (apply row_eq; rw [hkid]) | (apply row_eq; simp; done))) | (apply look_miss; focus rfl))); done), trivial⟩, hok2, hin2, hpath2, (by simp; omega), (OwnL.cast (ownL_row h144 h244) (by rw [hkid])), rfl⟩
   first | omega | (simp only []; omega)

theorem path_vp (t : TreeL) (h : Nat) (v : Valid t h) (k : K) : VP Try.prog G 25 [.agg (cT t), .list 1 (k.flatMap cB) k.length] (.list 1 ((pathF t k h t.root).flatMap cI) (pathF t k h t.root).length) := (path_vc t h v k).given cI_len

end Go.Proofs.Ythnobhekodiciaa.Tw

namespace Go.Proofs.Ythnobhekodiciaa.Tw
open Go.RowKit V Go.Proofs.Ythnobhekodiciaa.Tr Pk
set_option linter.unusedVariables false
set_option linter.unusedSimpArgs false

open Go.Lib (compareBytes)
/-- Is a key there? -/
def thereB (t : TreeL) (k : K) (h : Nat) : Bool := foundQ (t.pg (leafF t k h t.root)).keys k
theorem thereB_iff {t : TreeL} {h : Nat} (v : Valid t h) (k : K) : thereB t k h = true ↔ thereF t k h := by
 unfold thereB foundQ thereF
 have hl := (v.leaf k).2
 have hpl : placeF (t.pg (leafF t k h t.root)) k = downN (t.pg (leafF t k h t.root)).keys k := by unfold placeF; rw [if_pos hl]
 rw [hpl, decide_eq_true_iff, List.getElem?_eq_some_iff]
theorem there_T {p : PgL} {k : K} (hl : p.leaf = true) (ha : placeF p k < p.keys.length) : decide (p.keys[placeF p k] = k) = foundQ p.keys k := by
 unfold foundQ
 have hpl : placeF p k = downN p.keys k := by unfold placeF; rw [if_pos hl]
 simp only [hpl] at ha ⊢
 rw [List.getElem?_eq_getElem ha]; simp
theorem there_F {p : PgL} {k : K} (hl : p.leaf = true) (ha : ¬ placeF p k < p.keys.length) : false = foundQ p.keys k := by
 unfold foundQ
 have hpl : placeF p k = downN p.keys k := by unfold placeF; rw [if_pos hl]
 rw [hpl] at ha
 rw [List.getElem?_eq_none (by omega)]; rfl
theorem last_at {t : TreeL} {k : K} {h : Nat} {i : Int} : ∃ (hn : (pathF t k h i).length - 1 < (pathF t k h i).length), (pathF t k h i)[(pathF t k h i).length - 1] = leafF t k h i := by
 have h1 := path_last t k h i
 rw [List.getLast?_eq_getElem?] at h1
 exact List.getElem?_eq_some_iff.1 h1
variable {G : List (Nat × List Value)}

theorem place_le {p : PgL} {n : Int} (hp : PageOk p n) (k : K) : placeF p k ≤ p.keys.length := by
 unfold placeF; split
 ·exact downN_le _ _
 ·exact uptoN_le _ _
theorem path_len (t : TreeL) (k : K) : ∀ (h : Nat) (i : Int), (pathF t k h i).length = h + 1
 | 0, i => rfl
 | h + 1, i => by rw [pathF, List.length_cons, path_len t k h]

set_option maxHeartbeats 4000000 in
set_option maxRecDepth 100000 in
theorem find_vp (t : TreeL) (h : Nat) (v : Valid t h) (k : K) (hkl : k.length ≤ maxLen) (hpath : (pathF t k h t.root).length ≤ 1000000) : VP Try.prog G 23 [.agg (cT t), .list 1 (k.flatMap cB) k.length] (.tup [.v (.int .i64 (leafF t k h t.root)), .v (.int .i64 (placeF (t.pg (leafF t k h t.root)) k : Nat)), .v (.bool (thereB t k h))]) := by
 refine VC.body Try.func23 rfl Try.ntmps23 (Nat.le_of_ble_eq_true rfl) fun X0 w0 S00 => ?_
 unfold cT
 have hmx : maxLen = 9223372036854775807 := rfl
 have hpv := path_vp (G := G) t h v k
 unfold cT at hpv
 obtain ⟨hln, hlast⟩ := last_at (t := t) (k := k) (h := h) (i := t.root)
 obtain ⟨q1, hleaf⟩ := v.leaf k
 have hlt : (leafF t k h t.root).toNat < t.pages.length := by omega
 have hpg : t.pg (leafF t k h t.root) = (t.pages[(leafF t k h t.root).toNat]'hlt) := pg_at q1
 have po := v.page _ (pg_mem q1)
 have hmo := v.most
 have hpl0 : (pathF t k h t.root).length ≤ 1000000 := hpath
 have hple := place_vp (G := G) (t.pg (leafF t k h t.root)) k po.rise (by have := po.few; omega)
 have hpve : VP Try.prog G 27 [.agg (cP (t.pages[(leafF t k h t.root).toNat]'hlt)), .list 1 (k.flatMap cB) k.length] (.v (.int .i64 (placeF (t.pages[(leafF t k h t.root).toNat]'hlt) k : Nat))) := by rw [← hpg]; exact hple
 have hkl2 : ∀ x ∈ (t.pages[(leafF t k h t.root).toNat]'hlt).keys, x.length ≤ maxLen := fun x hx => by rw [← hpg] at hx; have := (po.klen x hx).2; omega
 have hleaf2 : (t.pages[(leafF t k h t.root).toNat]'hlt).leaf = true := by rw [← hpg]; exact hleaf
 have hthere : thereB t k h = foundQ (t.pages[(leafF t k h t.root).toNat]'hlt).keys k := by unfold thereB; rw [hpg]
 have hfew := po.few
 have hpll := (place_le po k)
 rw [hpg] at hfew hpll
 refine sr_ ?_
 refine OD.box (ds := [_, _]) (wants_plain rfl) rfl rfl ot rfl rfl (fun b2 => ?_)
 refine os_ mv_ ?_
 refine os_ mv_ ?_
 refine os_ mv_ ?_
 refine OD.wk (Wk.as_ (n := 42) (l' := [(1, _), (2, _)]) (S' := [⟨b2, 26, 2, [_, _]⟩]) rfl rfl ⟨lk, lk, trivial⟩) ?_
 refine OD.nil ?_
 refine sr_ ?_
 refine os_ (lab_ 0 [_, _]) ?_
 refine os_ mv_ ?_
 refine OD.callP (wants_plain rfl) rfl rfl rfl Try.call25 (hpv) ⟨ot, ot, trivial⟩ ?_
 refine os_ mv_ ?_
 refine OD.wk (Wk.as_ (n := 42) (l' := [(1, _), (2, _), (7, _)]) (S' := [⟨b2, 26, 2, [_, _]⟩]) rfl rfl ⟨lk, lk, lk, trivial⟩) ?_
 refine OD.nil ?_
 refine sr_ ?_
 refine os_ mv_ ?_
 refine os_ mv_ ?_
 refine os_ ln_ ?_
 refine os_ bn_ ?_
 refine os_ (ix_ 1 (h := by first | exact .l (j := (pathF t k h t.root).length - 1) (by omega) hln | exact .r (j := (pathF t k h t.root).length - 1) (by omega) hln)) ?_
 refine OD.still (wants_plain rfl) rfl (still_r1 (mk := Op.load 3) rfl ot (ld_fm0 (d := .v (.int .i64 (leafF t k h t.root))) (i := (pathF t k h t.root).length - 1) cI_len Try.isAgg3 hln (by rw [hlast]; rfl))) ?_
 refine os_ mv_ ?_
 refine OD.wk (Wk.as_ (n := 42) (l' := [(1, _), (2, _), (4, _)]) (S' := [⟨b2, 26, 2, [_, _]⟩]) rfl rfl ⟨lk, lk, lk, trivial⟩) ?_
 refine OD.nil ?_
 refine sr_ ?_
 refine os_ (fa_ 0) ?_
 refine os_ (lb_ 0) ?_
 refine os_ mv_ ?_
 refine os_ (ix_ 5) ?_
 refine os_ (la_ [_, _, _, _, _]) ?_
 refine OD.alloc (ds := [_, _, _, _, _]) (wants_plain rfl) rfl rfl Try.zeroValue44 rfl (fun b8 => ?_)
 refine OD.store (k := 0) (cs' := [_, _, _, _, _]) (wants_plain rfl) rfl rfl ot rfl rfl ot rfl rfl Try.sizeOf44 rfl rfl rfl ?_
 refine OD.wk (Wk.as_ (n := 42) (l' := [(1, _), (4, _), (8, _)]) (S' := [⟨b8, 44, 5, [_, _, _, _, _]⟩, ⟨b2, 26, 2, [_, _]⟩]) rfl rfl ⟨lk, lk, lk, trivial⟩) ?_
 refine OD.nil ?_
 refine sr_ ?_
 refine os_ (lab_ 0 [_, _, _, _, _]) ?_
 refine os_ mv_ ?_
 refine OD.callP (wants_plain rfl) rfl rfl rfl Try.call27 (hpve) ⟨ot, ot, trivial⟩ ?_
 refine os_ mv_ ?_
 refine OD.wk (Wk.as_ (n := 42) (l' := [(1, _), (4, _), (5, _), (8, _)]) (S' := [⟨b8, 44, 5, [_, _, _, _, _]⟩, ⟨b2, 26, 2, [_, _]⟩]) rfl rfl ⟨lk, lk, lk, lk, trivial⟩) ?_
 refine OD.nil ?_
 refine sr_ ?_
 refine os_ mv_ ?_
 refine os_ mv_ ?_
 refine os_ mv_ ?_
 refine os_ (fa_ 1) ?_
 refine os_ (lb_ 0) ?_
 refine os_ ln_ ?_
 refine os_ bn_ ?_
 refine os_ mv_ ?_
 refine OD.split (t := 33) lk (fun hg33 => ?_) (fun hg33 => ?_)
 ·have hg33' := hg33; (try simp only [V.cnd, ne_eq] at hg33')
  refine os_ (fa_ 1) ?_
  refine os_ (lb_ 0) ?_
  refine os_ mv_ ?_
  refine os_ (ix_ 1 (h := by first | exact .l (j := placeF (t.pages[(leafF t k h t.root).toNat]'hlt) k) rfl (by omega) | exact .r (j := placeF (t.pages[(leafF t k h t.root).toNat]'hlt) k) rfl (by omega))) ?_
  refine os_ ld_ ?_
  refine os_ mv_ ?_
  refine OD.callP (wants_T rfl rfl rfl lk (by first | rfl | assumption)) rfl rfl rfl Try.call37 (eq_vp ((t.pages[(leafF t k h t.root).toNat]'hlt).keys[placeF (t.pages[(leafF t k h t.root).toNat]'hlt) k]'(by omega)) k (hkl2 _ (List.getElem_mem _)) hkl) ⟨ot, ot, trivial⟩ ?_
  refine os_ pkT_ ?_
  refine os_ mv_ ?_
  refine os_ mv_ ?_
  refine os_ mv_ ?_
  refine OD.wk (Wk.as_ (n := 42) (l' := [(4, _), (5, _), (6, _)]) (S' := [⟨b8, 44, 5, [_, _, _, _, _]⟩, ⟨b2, 26, 2, [_, _]⟩]) rfl rfl ⟨lk, lk, lk, trivial⟩) ?_
  refine OD.nil ?_
  refine CD.ret ?_
  refine ⟨.inr rfl, _, [], List.nil_sublist _, ret_three Try.results23 (res_tmp (Nat.le_of_ble_eq_true rfl) lk) (res_tmp (Nat.le_of_ble_eq_true rfl) lk) (res_tmp (Nat.le_of_ble_eq_true rfl) lk), ?_⟩
  rw [hthere, hpg]
  first | exact ⟨by rw [there_T hleaf2 (by omega)], rfl⟩ | exact ⟨by rw [← there_F hleaf2 (by omega)], rfl⟩
 ·have hg33' := hg33; (try simp only [V.cnd, ne_eq] at hg33')
  refine sk_ ?_
  refine sk_ ?_
  refine sk_ ?_
  refine sk_ ?_
  refine sk_ ?_
  refine sk_ ?_
  refine sk_ ?_
  refine os_ pkF_ ?_
  refine os_ mv_ ?_
  refine os_ mv_ ?_
  refine os_ mv_ ?_
  refine nm_ [4, 5, 6] ?_
  refine CD.ret ?_
  refine ⟨.inr rfl, _, [], List.nil_sublist _, ret_three Try.results23 (res_tmp (Nat.le_of_ble_eq_true rfl) lk) (res_tmp (Nat.le_of_ble_eq_true rfl) lk) (res_tmp (Nat.le_of_ble_eq_true rfl) lk), ?_⟩
  rw [hthere, hpg]
  first | exact ⟨by rw [there_T hleaf2 (by omega)], rfl⟩ | exact ⟨by rw [← there_F hleaf2 (by omega)], rfl⟩

end Go.Proofs.Ythnobhekodiciaa.Tw

namespace Go.Proofs.Ythnobhekodiciaa.Tw
open Go.RowKit V Go.Proofs.Ythnobhekodiciaa.Tr Pk
set_option linter.unusedVariables false
set_option linter.unusedSimpArgs false

abbrev OwnI (ls : List Int) (ad : Option Addr) (cap : Nat) (S : List Blk) : Prop := OwnL 3 1 (ls.flatMap cI) ls.length ad cap S
abbrev OwnKs (ls : List K) (ad : Option Addr) (cap : Nat) (S : List Blk) : Prop := OwnL 31 1 (ls.flatMap cK) ls.length ad cap S
variable {G : List (Nat × List Value)}

theorem info5_Tw5 : (Try.prog.info? 5).map (fun i => (i.zero, i.size, i.bytes)) = some (some (.int .u8 0), 1, 1) := by kernel_rfl

set_option maxHeartbeats 4000000 in
set_option maxRecDepth 100000 in
theorem cloneB_vp (a : List UInt8) (ha : a.length ≤ 1000000) : VP Try.prog G 26 [.list 1 (a.flatMap cB) a.length] (.list 1 (a.flatMap cB) a.length) := by
 refine VC.body Try.func26 rfl Try.ntmps26 (Nat.le_of_ble_eq_true rfl) fun X0 w0 S00 => ?_
 have hmx : maxLen = 9223372036854775807 := rfl
 refine sr_ ?_
 refine os_ mv_ ?_
 refine nm_ [0] ?_
 refine CD.seq ?_
 refine sr_ ?_
 refine os_ mv_ ?_
 refine OD.eqNil (wants_plain rfl) rfl rfl ot opd_const Try.underlying31 (fun bn hbn => ?_)
 refine OD.wk (Wk.as_ (n := 8) (l' := [(0, _), (4, _)]) (S' := []) rfl rfl ⟨lk, lk, trivial⟩) ?_
 refine OD.nil ?_
 refine CD.cond ot (fun hc0 => ?_) (fun hc0 => ?_)
 ·have hc0' := hc0
  (try simp only [V.cnd, ne_eq] at hc0')
  obtain ⟨hz, _⟩ := hbn hc0
  obtain rfl := List.length_eq_zero_iff.1 hz
  refine sr_ ?_
  refine os_ mv_ ?_
  refine nm_ [2] ?_
  refine CD.wk (Wk.giveNil (t := 2) (sz := 1) lk) ?_
  refine CD.ret ?_
  refine r1_ ?_
  exact ⟨rfl, rfl⟩
 ·have hc0' := hc0
  (try simp only [V.cnd, ne_eq] at hc0')
  refine CD.skip ?_
  refine sr_ ?_
  refine OD.bldS0 (wants_plain rfl) rfl rfl Try.runUnderlying31 Try.sizeOf5 (fun b5 => ?_)
  refine os_ mv_ ?_
  refine OD.appendAny (ls := ([] : List UInt8)) (new := a) (Sq := [⟨b5, 5, 0 * 1, []⟩]) cB_len cB_one (wants_plain rfl) rfl rfl Try.underlying31 info5_Tw5 rfl (by decide) Try.runUnderlying31 Try.sizeOf5 ot (.inr ⟨b5, rfl, Nat.le_refl _, Nat.zero_le _, rfl⟩) (perm_r11 (A := [])) ot (by simp; omega) (by simp; omega) (fun ad7 cp7 S7 ho7 => ?_)
  refine OD.perm (perm_q11 (A := [])) ?_
  refine os_ mv_ ?_
  refine OD.wk (Wk.as_ (n := 8) (l' := [(2, _)]) (S' := (S7)) rfl rfl ⟨lk, trivial⟩) ?_
  refine OD.nil ?_
  refine CD.giveL (t := 2) (Sq := S7) lk ho7 (fm_len cB_len _) (perm_r11 (A := [])) ?_
  refine CD.ret ?_
  refine ⟨.inr rfl, _, [], List.nil_sublist _, ret_one Try.results26 (res_tmp (Nat.le_of_ble_eq_true rfl) lk), ?_⟩
  exact ⟨rfl, rfl⟩

theorem info3_Tw5 : (Try.prog.info? 3).map (fun i => (i.zero, i.size, i.bytes)) = some (some (.int .i64 0), 1, 8) := by kernel_rfl

set_option maxHeartbeats 4000000 in
set_option maxRecDepth 100000 in
theorem cloneI_vc (a : List Int) (ha : a.length ≤ 1000000) : VC Try.prog G 39 [.list 1 (a.flatMap cI) a.length] [] (fun r S => ∃ ad cap, r = .v (.slice ad a.length cap) ∧ OwnI a ad cap S) := by
 refine VC.body Try.func39 rfl Try.ntmps39 (Nat.le_of_ble_eq_true rfl) fun X0 w0 S00 => ?_
 have hmx : maxLen = 9223372036854775807 := rfl
 refine sr_ ?_
 refine os_ mv_ ?_
 refine nm_ [0] ?_
 refine CD.seq ?_
 refine sr_ ?_
 refine os_ mv_ ?_
 refine OD.eqNil (wants_plain rfl) rfl rfl ot opd_const Try.underlying22 (fun bn hbn => ?_)
 refine OD.wk (Wk.as_ (n := 8) (l' := [(0, _), (4, _)]) (S' := []) rfl rfl ⟨lk, lk, trivial⟩) ?_
 refine OD.nil ?_
 refine CD.cond ot (fun hc0 => ?_) (fun hc0 => ?_)
 ·have hc0' := hc0
  (try simp only [V.cnd, ne_eq] at hc0')
  obtain ⟨hz, _⟩ := hbn hc0
  obtain rfl := List.length_eq_zero_iff.1 hz
  refine sr_ ?_
  refine os_ mv_ ?_
  refine nm_ [2] ?_
  refine CD.ret ?_
  refine ⟨.inr rfl, _, [], List.nil_sublist _, ret_one Try.results39 (res_tmp (Nat.le_of_ble_eq_true rfl) lk), ?_⟩
  exact ⟨none, 0, rfl, .inl ⟨rfl, rfl, rfl, rfl, rfl⟩⟩
 ·have hc0' := hc0
  (try simp only [V.cnd, ne_eq] at hc0')
  refine CD.skip ?_
  refine sr_ ?_
  refine OD.bldS0 (wants_plain rfl) rfl rfl Try.runUnderlying22 Try.sizeOf3 (fun b5 => ?_)
  refine os_ mv_ ?_
  refine OD.appendAny (ls := ([] : List Int)) (new := a) (Sq := [⟨b5, 3, 0 * 1, []⟩]) cI_len cI_one (wants_plain rfl) rfl rfl Try.underlying22 info3_Tw5 rfl (by decide) Try.runUnderlying22 Try.sizeOf3 ot (.inr ⟨b5, rfl, Nat.le_refl _, Nat.zero_le _, rfl⟩) (perm_r11 (A := [])) ot (by simp; omega) (by simp; omega) (fun ad7 cp7 S7 ho7 => ?_)
  refine OD.perm (perm_q11 (A := [])) ?_
  refine os_ mv_ ?_
  refine OD.wk (Wk.as_ (n := 8) (l' := [(2, _)]) (S' := (S7)) rfl rfl ⟨lk, trivial⟩) ?_
  refine OD.nil ?_
  refine CD.ret ?_
  refine ⟨.inr rfl, _, S7, List.Sublist.refl _, ret_one Try.results39 (res_tmp (Nat.le_of_ble_eq_true rfl) lk), ?_⟩
  exact ⟨_, _, rfl, ho7⟩

theorem info31_Tw5 : (Try.prog.info? 31).map (fun i => (i.zero, i.size, i.bytes)) = some (some (.slice none 0 0), 1, 24) := by kernel_rfl

set_option maxHeartbeats 4000000 in
set_option maxRecDepth 100000 in
theorem cloneK_vc (a : List K) (ha : a.length ≤ 1000000) : VC Try.prog G 46 [.list 1 (a.flatMap cK) a.length] [] (fun r S => ∃ ad cap, r = .v (.slice ad a.length cap) ∧ OwnKs a ad cap S) := by
 refine VC.body Try.func46 rfl Try.ntmps46 (Nat.le_of_ble_eq_true rfl) fun X0 w0 S00 => ?_
 have hmx : maxLen = 9223372036854775807 := rfl
 refine sr_ ?_
 refine os_ mv_ ?_
 refine nm_ [0] ?_
 refine CD.seq ?_
 refine sr_ ?_
 refine os_ mv_ ?_
 refine OD.eqNil (wants_plain rfl) rfl rfl ot opd_const Try.underlying42 (fun bn hbn => ?_)
 refine OD.wk (Wk.as_ (n := 8) (l' := [(0, _), (4, _)]) (S' := []) rfl rfl ⟨lk, lk, trivial⟩) ?_
 refine OD.nil ?_
 refine CD.cond ot (fun hc0 => ?_) (fun hc0 => ?_)
 ·have hc0' := hc0
  (try simp only [V.cnd, ne_eq] at hc0')
  obtain ⟨hz, _⟩ := hbn hc0
  obtain rfl := List.length_eq_zero_iff.1 hz
  refine sr_ ?_
  refine os_ mv_ ?_
  refine nm_ [2] ?_
  refine CD.ret ?_
  refine ⟨.inr rfl, _, [], List.nil_sublist _, ret_one Try.results46 (res_tmp (Nat.le_of_ble_eq_true rfl) lk), ?_⟩
  exact ⟨none, 0, rfl, .inl ⟨rfl, rfl, rfl, rfl, rfl⟩⟩
 ·have hc0' := hc0
  (try simp only [V.cnd, ne_eq] at hc0')
  refine CD.skip ?_
  refine sr_ ?_
  refine OD.bldS0 (wants_plain rfl) rfl rfl Try.runUnderlying42 Try.sizeOf31 (fun b5 => ?_)
  refine os_ mv_ ?_
  refine OD.appendAny (ls := ([] : List K)) (new := a) (Sq := [⟨b5, 31, 0 * 1, []⟩]) cK_len cK_one (wants_plain rfl) rfl rfl Try.underlying42 info31_Tw5 rfl (by decide) Try.runUnderlying42 Try.sizeOf31 ot (.inr ⟨b5, rfl, Nat.le_refl _, Nat.zero_le _, rfl⟩) (perm_r11 (A := [])) ot (by simp; omega) (by simp; omega) (fun ad7 cp7 S7 ho7 => ?_)
  refine OD.perm (perm_q11 (A := [])) ?_
  refine os_ mv_ ?_
  refine OD.wk (Wk.as_ (n := 8) (l' := [(2, _)]) (S' := (S7)) rfl rfl ⟨lk, trivial⟩) ?_
  refine OD.nil ?_
  refine CD.ret ?_
  refine ⟨.inr rfl, _, S7, List.Sublist.refl _, ret_one Try.results46 (res_tmp (Nat.le_of_ble_eq_true rfl) lk), ?_⟩
  exact ⟨_, _, rfl, ho7⟩

end Go.Proofs.Ythnobhekodiciaa.Tw
