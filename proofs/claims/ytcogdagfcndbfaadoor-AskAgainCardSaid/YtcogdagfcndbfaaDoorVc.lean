/-
  A walk at the level of values. Part 12: calls that only look at what one owns; nil; empty literals; rows one may own.
-/
import Derived.Test.YtcogdagfcndbfaaDoorVb
import Derived.Laws.Cover3
namespace Go.Proofs.YtcogdagfcndbfaaDoor.V
open Go.RowKit
set_option linter.unusedVariables false
set_option linter.unusedSimpArgs false

variable {P : Program} {C : Ctx} {G : List (Nat × List Value)} {Q : Exit → St → Prop} {x : St} {ops : Array Oper} {l : List Oper} {o : Oper} {S1 T : List Nat} {fuel i : Nat} {ld : Array Bool}

/-- What reads as d where S is owned, reads as d' for somebody who only looks at it. -/
def View (S : List Blk) (d d' : D) : Prop := ∀ (X Y : Nat → Prop) w v, (∀ b, Y b → X b) → (∀ b, X b → b ∉ bks S) → Own w (live X S) S → Rep w (live X S) d v → Rep w Y d' v

theorem Rep.bare {w : World} {X Y : Nat → Prop} {S : List Blk} {d : D} {v : Value} (h : Rep w (live X S) d v) (hY : ∀ b, Y b → X b) : Rep w Y d v := h.mono fun b _ hn => ⟨rfl, fun hy => hn (.inl (hY b hy))⟩

theorem view_same {S : List Blk} {d : D} : View S d d := fun X Y w v hY _ _ h => h.bare hY
theorem view_nil {S : List Blk} {sz : Nat} : View S (.v (.slice none 0 0)) (.list sz [] 0) := fun X Y w v _ _ _ h => by rw [h.v_eq]; exact .nil sz

theorem view_row {S : List Blk} {k sz n cap b : Nat} {B : Blk} {cs : List D} (hk : S[k]? = some B) (hb : B.b = b) (hcs : B.cs = cs) (hl : cs.length = n * sz) (h1 : n ≤ cap) (h2 : cap ≤ maxLen) : View S (.v (.slice (some ⟨b, 0, none⟩) n cap)) (.list sz cs n) := fun X Y w v hY hX ho h => by
  subst hb hcs
  rw [h.v_eq]
  obtain ⟨r0, cur, r1, r2, r3, r4⟩ := ho.at_ B (List.mem_of_getElem? hk)
  refine .list sz B.cs n B.b 0 cap (fun i => cur.getD i undef) hl h1 h2 r0 (fun hy => hX _ (hY _ hy) (List.mem_map.2 ⟨B, List.mem_of_getElem? hk, rfl⟩)) (fun i hi => ?_) (fun i hi => ?_)
  · obtain ⟨u, hu, _⟩ := r4 i hi
    rw [Nat.zero_add, cell_blk r1 hu]
    simp [hu]
  · obtain ⟨u, hu, hq⟩ := r4 i hi
    simp only [Array.getD_eq_getD_getElem?, hu, Option.getD_some]
    exact hq.bare hY

def Views (S : List Blk) : List D → List D → Prop
  | [], [] => True
  | d :: r, d' :: r' => View S d d' ∧ Views S r r'
  | _, _ => False

theorem Views.spec {S : List Blk} : ∀ {ds ds' : List D}, Views S ds ds' → ds.length = ds'.length ∧ ∀ i (h : i < ds.length) (h' : i < ds'.length), View S ds[i] ds'[i]
  | [], [], _ => ⟨rfl, fun i h => by simp at h⟩
  | d :: r, d' :: r', h => ⟨by simp [(Views.spec h.2).1], fun i h1 h2 => by
    cases i with
    | zero => exact h.1
    | succ i => exact (Views.spec h.2).2 i _ _⟩
  | [], _ :: _, h => h.elim
  | _ :: _, [], h => h.elim

theorem view_agg {S : List Blk} {ds ds' : List D} (h : Views S ds ds') : View S (.agg ds) (.agg ds') := fun X Y w v hY hX ho hr => by
  obtain ⟨h1, h2⟩ := h.spec
  cases hr with
  | agg _ vs hl hrr => exact .agg ds' vs (by omega) fun i q1 q2 => h2 i (by omega) q1 X Y w _ hY hX ho (hrr i (by omega) q2)

/-- The operands, as somebody who only looks at them has them. -/
def Looks (x : St) : List Operand → List D → Prop
  | [], [] => True
  | o :: r, d :: r' => (∃ d0, opd x o = d0 ∧ View x.S d0 d) ∧ Looks x r r'
  | _, _ => False

theorem Looks.rep {C : Ctx} {a : Act} {w : World} (h : Sim C x a w) : ∀ {os : List Operand} {ds : List D}, Looks x os ds → RepL w (fun _ => False) ds (os.map a.eval)
  | [], [], _ => ⟨rfl, fun i h => by simp at h⟩
  | o :: r, d :: r', ⟨⟨d0, h1, h2⟩, h3⟩ => RepL.cons (h2 _ _ _ _ (fun _ hf => hf.elim) h.exS h.own (h1 ▸ h.eval o)) (Looks.rep h h3)
  | [], _ :: _, h => h.elim
  | _ :: _, [], h => h.elim

theorem view_tup {S : List Blk} {ds ds' : List D} (h : Views S ds ds') : View S (.tup ds) (.tup ds') := fun X Y w v hY hX ho hr => by
  obtain ⟨h1, h2⟩ := h.spec
  cases hr with
  | tup _ vs hl hrr => exact .tup ds' vs (by omega) fun i q1 q2 => h2 i (by omega) q1 X Y w _ hY hX ho (hrr i (by omega) q2)

/-- What a call made of its own, given up to reading. -/
theorem VC.cover {f : FuncId} {args : List D} {post : D → List Blk → Prop} {r' : D} (h : VC P G f args [] post) (hv : ∀ r S', post r S' → View S' r r') : VP P G f args r' := fun X w vs hp =>
  (h X w vs hp).mono fun e w' ⟨v, r, S', h1, h2, h3, h4, h5⟩ => by
    have hX : ∀ b, X b → b ∉ bks S' := fun b hb => (h5.block b (hp.ex b hb).1 (hp.ex b hb).2).2
    refine ⟨v, r', [], h1, ⟨rfl, rfl⟩, ⟨fun B hB => by simp at hB, by simp [bks]⟩, hv r S' h2 X _ w' v (fun b hb => ?_) hX h3 h4, ⟨h5.os, h5.tape, h5.output, h5.size, fun b hb hn => ⟨(h5.block b hb hn).1, by simp [bks]⟩⟩⟩
    rcases hb with hb | hb
    · exact hb
    · simp [bks] at hb

/-- What hangs on no block. -/
def flatD : D → Bool
  | .v _ => true
  | .tup cs => cs.all fun d => match d with | .v _ => true | _ => false
  | .agg cs => cs.all fun d => match d with | .v _ => true | _ => false
  | _ => false

theorem Rep.flat {w w' : World} {L L' : Nat → Prop} {d : D} {v : Value} (h : Rep w L d v) (hf : flatD d = true) : Rep w' L' d v := by
  have key : ∀ (d : D), (match d with | .v _ => true | _ => false) = true → ∀ v, Rep w L d v → Rep w' L' d v := fun d hd v h => by
    cases d <;> simp at hd
    rw [h.v_eq]; exact .v _
  cases h with
  | v => exact .v _
  | tup cs vs hl hr => exact .tup cs vs hl fun i h1 h2 => key _ (List.all_eq_true.1 hf _ (List.getElem_mem h1)) _ (hr i h1 h2)
  | agg cs vs hl hr => exact .agg cs vs hl fun i h1 h2 => key _ (List.all_eq_true.1 hf _ (List.getElem_mem h1)) _ (hr i h1 h2)
  | _ => cases hf

/-- A call that only looks at what is owned here, and returns something plain. -/
theorem eff_look {f t : Nat} {fo : Operand} {as : Array Operand} {ts : Array TypeId} {args : List D} {r : D} (ho : o.op = .call { callee := .value fo, args := as, argTypes := ts }) (hd : o.dst = some t)
    (hf : fo = .func f) (hcall : ∀ args w, (callFunc f args).run P w = .ok (.enter f args) w) (hc : VP P G f args r) (hr : flatD r = true) (ha : Looks x as.toList args) :
    Eff P G x o [] (fun y => y = x.put t r) := fun C a w K Q hG h hK => by
  subst hf
  have hrun : (execOp a.eval o).run P w = .ok (.enter f (as.toList.map a.eval).toArray) w := by
    unfold execOp
    have e : as.map a.eval = (as.toList.map a.eval).toArray := by
      rw [← Array.toList_map, Array.toArray_toList]
    simp only [ho, resolve, Act.eval, Deferred.ofValue, Sem.run_bind, Sem.run_pure, Result.andThen_ok, invoke, e]
    simp [hcall]
  have hpre : Pre G (fun _ => False) w [] args (as.toList.map a.eval) := by
    refine ⟨fun b hx => hx.elim, fun g hg => ?_, ⟨fun B hB => by simp at hB, by simp [bks]⟩, (Looks.rep h ha).mono fun b _ _ => ⟨rfl, fun hl => by rcases hl with hl | hl; exact hl; simp [bks] at hl⟩⟩
    rw [← hG] at hg
    exact ⟨⟨Nat.lt_of_lt_of_le (h.tab g hg).1.1 h.fr.size, by simp [bks], id⟩, fun i v hi => h.tabAt hg hi⟩
  unfold Oper.wp
  rw [hrun, Oper.upon_enter, hd]
  refine (hc _ w _ hpre).mono fun e w' ⟨v, r', S', h1, ⟨h2, h2'⟩, h3, h4, h5⟩ => ?_
  subst h1 h2 h2'
  have hb : ∀ b, b < w.heap.size → w'.heap[b]? = w.heap[b]? := fun b hb => (h5.block b hb (by simp [bks])).1
  have base : Sim C x a w' := by
    refine ⟨h.defers, h.size, fun t ht => (h.env t ht).mono fun b hb' hn => ⟨hb b hb', hn⟩, ⟨fun B hB => ?_, h.own.apart⟩, ?_, h.ex, h.tab⟩
    · obtain ⟨r0, cur, r1, r2, r3, r4⟩ := h.own.at_ B hB
      refine ⟨lt_of_same r0 (hb _ r0), cur, (hb _ r0).trans r1, r2, r3, fun i hi => ?_⟩
      obtain ⟨u, hu, hq⟩ := r4 i hi
      exact ⟨u, hu, hq.mono fun b hb' hn => ⟨hb b hb', hn⟩⟩
    · exact ⟨h5.os.trans h.fr.os, h5.tape.trans h.fr.tape, h5.output.trans h.fr.output, Nat.le_trans h.fr.size h5.size, fun b hb' hn => ⟨(hb b (Nat.lt_of_lt_of_le hb' h.fr.size)).trans (h.fr.block b hb' hn).1, (h.fr.block b hb' hn).2⟩⟩
  exact hK _ _ _ rfl (base.put (h4.flat hr)) ⟨h5.size, fun b hb' _ => hb b hb'⟩ ⟨h5.os, h5.tape, h5.output, h5.size, fun b hb' hn => ⟨hb b hb', hn⟩⟩

theorem OD.look {f t : Nat} {fo : Operand} {as : Array Operand} {ts : Array TypeId} {args : List D} {r : D} (hw : Wants ops x o true) (ho : o.op = .call { callee := .value fo, args := as, argTypes := ts }) (hd : o.dst = some t)
    (hf : fo = .func f) (hcall : ∀ args w, (callFunc f args).run P w = .ok (.enter f args) w) (hc : VP P C.G f args r) (hr : flatD r = true) (ha : Looks x as.toList args)
    (K : OD P C ops l (x.put t r) Q) : OD P C ops (o :: l) x Q := OD.eff hw (eff_look ho hd hf hcall hc hr ha) fun y hy => hy ▸ K

theorem AStep.look {f t : Nat} {fo : Operand} {as : Array Operand} {ts : Array TypeId} {args : List D} {r : D} (hi : ops[i]? = some o) (hw : Wants ops x o true) (ho : o.op = .call { callee := .value fo, args := as, argTypes := ts }) (hd : o.dst = some t)
    (hf : fo = .func f) (hcall : ∀ args w, (callFunc f args).run P w = .ok (.enter f args) w) (hc : VP P C.G f args r) (hr : flatD r = true) (ha : Looks x as.toList args)
    (K : AD P C ops S1 T fuel (ld.setIfInBounds i true) (x.put t r) Q) : AStep P C ops S1 T fuel ld x Q i := AStep.eff0 hi hw (eff_look ho hd hf hcall hc hr ha) fun y hy => hy ▸ K

/-! ### nil -/

/-- Is a list nil? If so, it is empty. -/
theorem eff_eqNil {t t' e : TypeId} {tt sz n : Nat} {cs : List D} {y z : Operand} (ho : o.op = .binOp .eql t y z t') (hd : o.dst = some tt) (hy : opd x y = .list sz cs n) (hz : opd x z = .v (.slice none 0 0)) (ht : P.underlying t = some (.slice e)) :
    Eff P G x o [] (fun s => ∃ b : Bool, (b = true → n = 0 ∧ cs = []) ∧ s = x.put tt (.v (.bool b))) := fun C a w K Q hG h hK => by
  have hr := h.eval y
  rw [hy] at hr
  generalize hg : a.eval y = u at hr
  have hrun : ∀ ad len cap, u = .slice ad len cap → (execOp a.eval o).run P w = .ok (.value (.bool ad.isNone)) w := fun ad len cap hu => by
    subst hu
    unfold execOp
    have e1 : binOp .eql t (.slice ad len cap) (.slice none 0 0) = (do pure (.bool (← Op.equal t (.slice ad len cap) (.slice none 0 0)))) := rfl
    simp only [ho, hg, h.flat hz, eqGuard, e1, Sem.run_bind]
    simp [run_equal_slice_nil w t e ad len cap ht]
  unfold Oper.wp
  cases hr with
  | nil =>
    rw [hrun none 0 0 rfl, Oper.upon_value, hd]
    exact hK _ _ _ ⟨true, fun _ => ⟨rfl, rfl⟩, rfl⟩ (h.put (.v _)) (Chg.refl _ _) (Fr.refl _ _)
  | list _ _ _ b o' cap f hl q1 q2 hb hL hc hrr =>
    rw [hrun (some ⟨b, o', none⟩) n cap rfl, Oper.upon_value, hd]
    exact hK _ _ _ ⟨false, (fun hh => absurd hh (by simp)), rfl⟩ (h.put (.v _)) (Chg.refl _ _) (Fr.refl _ _)

theorem OD.eqNil {t t' e : TypeId} {tt sz n : Nat} {cs : List D} {y z : Operand} (hw : Wants ops x o true) (ho : o.op = .binOp .eql t y z t') (hd : o.dst = some tt) (hy : opd x y = .list sz cs n) (hz : opd x z = .v (.slice none 0 0)) (ht : P.underlying t = some (.slice e))
    (K : ∀ b : Bool, (b = true → n = 0 ∧ cs = []) → OD P C ops l (x.put tt (.v (.bool b))) Q) : OD P C ops (o :: l) x Q :=
  OD.eff hw (eff_eqNil ho hd hy hz ht) fun y ⟨b, hb, hy⟩ => hy ▸ K b hb

/-- An empty literal. -/
theorem eff_bldS0 {t e : TypeId} {tt sz : Nat} (ho : o.op = .buildSlice t 0 #[]) (hdst : o.dst = some tt) (hu : ∀ w, (underlying t).run P w = .ok (.slice e) w) (hs : ∀ w, (sizeOf e).run P w = .ok sz w) :
    Eff P G x o [] (fun s => ∃ b, s = ⟨x.n, (tt, .v (.slice (some ⟨b, 0, none⟩) 0 0)) :: x.env, ⟨b, e, 0 * sz, []⟩ :: x.S⟩) := fun C a w K Q hG h hK => by
  unfold Oper.wp
  have : (execOp a.eval o).run P w = .ok (.value (.slice (some ⟨w.heap.size, 0, none⟩) 0 0)) (w.alloc (.cells #[] e)) := by
    unfold execOp
    have e0 : Array.map (fun x => (default : Value)) (Array.range 0) = #[] := Array.eq_empty_of_size_eq_zero (by simp)
    simp [ho, Instr.buildSlice, hu, hs, Instr.fill, newRow, e0]
  rw [this, Oper.upon_value, hdst]
  exact hK _ _ _ ⟨w.heap.size, rfl⟩ (h.new (ds := []) (RepL.nil _ _) (by simp) (fun L => .v _)) (Chg.alloc _ _) (Fr.alloc _ _ _)

theorem OD.bldS0 {t e : TypeId} {tt sz : Nat} (hw : Wants ops x o true) (ho : o.op = .buildSlice t 0 #[]) (hdst : o.dst = some tt) (hu : ∀ w, (underlying t).run P w = .ok (.slice e) w) (hs : ∀ w, (sizeOf e).run P w = .ok sz w)
    (K : ∀ b, OD P C ops l ⟨x.n, (tt, .v (.slice (some ⟨b, 0, none⟩) 0 0)) :: x.env, ⟨b, e, 0 * sz, []⟩ :: x.S⟩ Q) : OD P C ops (o :: l) x Q :=
  OD.eff hw (eff_bldS0 ho hdst hu hs) fun y ⟨b, hy⟩ => hy ▸ K b

/-- One's own list, nil or a row. -/
def OwnL (e sz : Nat) (cs : List D) (n : Nat) (ad : Option Addr) (cap : Nat) (S : List Blk) : Prop :=
  (n = 0 ∧ cs = [] ∧ ad = none ∧ cap = 0 ∧ S = []) ∨ ∃ b, ad = some ⟨b, 0, none⟩ ∧ n ≤ cap ∧ cap ≤ maxLen ∧ S = [⟨b, e, cap * sz, cs⟩]

theorem view_own {S Sq : List Blk} {e sz n cap : Nat} {cs : List D} {ad : Option Addr} (h : OwnL e sz cs n ad cap Sq) (hl : cs.length = n * sz) (hs : ∀ B ∈ Sq, B ∈ S) : View S (.v (.slice ad n cap)) (.list sz cs n) := by
  rcases h with ⟨rfl, rfl, rfl, rfl, rfl⟩ | ⟨b, rfl, h1, h2, rfl⟩
  · exact view_nil
  · obtain ⟨k, hk, he⟩ := List.mem_iff_getElem.1 (hs _ List.mem_cons_self)
    exact view_row (k := k) (by rw [List.getElem?_eq_getElem hk, he]) rfl rfl hl h1 h2

theorem OwnL.le {e sz n cap : Nat} {cs : List D} {ad : Option Addr} {S : List Blk} (h : OwnL e sz cs n ad cap S) : n ≤ cap := by
  rcases h with ⟨rfl, _, _, rfl, _⟩ | ⟨_, _, h, _⟩
  · exact Nat.le_refl _
  · exact h

/-- The order in which one's blocks are told does not matter. -/
theorem Wk.perm {n : Nat} {env : List (Nat × D)} {S S' : List Blk} (hp : S.Perm S') : Wk ⟨n, env, S⟩ ⟨n, env, S'⟩ := fun C a w h => by
  have hb : (bks S).Perm (bks S') := hp.map Blk.b
  have hl : live C.X S = live C.X S' := by funext b; exact propext (or_congr Iff.rfl hb.mem_iff)
  have henv := h.env
  have hown := h.own
  simp only [hl] at henv hown
  exact ⟨h.defers, h.size, henv, ⟨fun B hB => hown.at_ B (hp.symm.subset hB), hb.nodup_iff.1 hown.apart⟩,
    ⟨h.fr.os, h.fr.tape, h.fr.output, h.fr.size, fun b h1 h2 => ⟨(h.fr.block b h1 h2).1, fun hm => (h.fr.block b h1 h2).2 (hb.symm.subset hm)⟩⟩, h.ex, h.tab⟩

theorem OD.perm {S' : List Blk} (hp : x.S.Perm S') (k : OD P C ops l ⟨x.n, x.env, S'⟩ Q) : OD P C ops l x Q := OD.wk (Wk.perm hp) k
theorem AD.perm {S' : List Blk} (hp : x.S.Perm S') (k : AD P C ops S1 T fuel ld ⟨x.n, x.env, S'⟩ Q) : AD P C ops S1 T fuel ld x Q := AD.wkSub (Wk.perm hp) (fun b hb => (hp.map Blk.b).symm.subset hb) k
theorem CD.perm {c : Code} {S' : List Blk} (hp : x.S.Perm S') (k : CD P C c ⟨x.n, x.env, S'⟩ Q) : CD P C c x Q := CD.wk (Wk.perm hp) k

/-- What one owns through a block's cells is given up to reading. -/
theorem Wk.cover {n : Nat} {l : List (Nat × D)} {S R Sd : List Blk} {A : Blk} {cs' : List D} (hp : S.Perm ((A :: R) ++ Sd)) (hv : Views Sd A.cs cs') : Wk ⟨n, l, S⟩ ⟨n, l, { A with cs := cs' } :: R⟩ := fun C a w h0 => by
  have h := Wk.perm hp C a w h0
  have hd : Sim C ⟨n, l, A :: R⟩ a w := Wk.drop n l _ (A :: R) (List.sublist_append_left _ _) C a w h
  obtain ⟨v1, v2⟩ := hv.spec
  have hlive : live C.X ({ A with cs := cs' } :: R) = live C.X (A :: R) := rfl
  have hL : live C.X ((A :: R) ++ Sd) = live (fun b => live C.X (A :: R) b) Sd := by
    funext b
    simp only [live, bks, List.map_append, List.mem_append]
    exact propext or_assoc.symm
  have hnd : (bks (A :: R) ++ bks Sd).Nodup := by have := h.own.apart; simpa [bks] using this
  have hX : ∀ b, live C.X (A :: R) b → b ∉ bks Sd := fun b hb hm => by
    rcases hb with hb | hb
    · exact h.exS b hb (by simp only [bks, List.map_append, List.mem_append] at hm ⊢; exact .inr hm)
    · exact (List.nodup_append.1 hnd).2.2 b hb b hm rfl
  have hOwn : Own w (live (fun b => live C.X (A :: R) b) Sd) Sd := ⟨fun B hB => by rw [← hL]; exact h.own.at_ B (List.mem_append_right _ hB), (List.nodup_append.1 hnd).2.1⟩
  refine ⟨hd.defers, hd.size, hd.env, ⟨fun B hB => ?_, hd.own.apart⟩, hd.fr, hd.ex, hd.tab⟩
  rcases List.mem_cons.1 hB with rfl | hB
  · obtain ⟨r0, cur, r1, r2, r3, r4⟩ := h.own.at_ A (List.mem_append_left _ List.mem_cons_self)
    refine ⟨r0, cur, r1, r2, by rw [← v1]; exact r3, fun i hi => ?_⟩
    have hi' : i < A.cs.length := by rw [v1]; exact hi
    obtain ⟨u, hu, hq⟩ := r4 i hi'
    refine ⟨u, hu, v2 i hi' hi (fun b => live C.X (A :: R) b) _ w u (fun b hb => hb) hX hOwn ?_⟩
    rw [← hL]; exact hq
  · exact hd.own.at_ B (List.mem_cons_of_mem _ hB)

theorem OD.cover {R Sd : List Blk} {A : Blk} {cs' : List D} (hp : x.S.Perm ((A :: R) ++ Sd)) (hv : Views Sd A.cs cs') (k : OD P C ops l ⟨x.n, x.env, { A with cs := cs' } :: R⟩ Q) : OD P C ops l x Q := OD.wk (Wk.cover hp hv) k

theorem perm_erase {S R : List Blk} {k : Nat} {B : Blk} (hk : S[k]? = some B) (hp : S.Perm (B :: R)) : (S.eraseIdx k).Perm R := ((perm_pick hk).symm.trans hp).cons_inv

theorem OD.give {k t m cap sz b : Nat} {B : Blk} {cs : List D} (hk : x.S[k]? = some B) (ht : V.look t x.env = .v (.slice (some ⟨b, 0, none⟩) m cap)) (hb : B.b = b) (hcs : B.cs = cs) (hl : cs.length = m * sz) (h1 : m ≤ cap) (h2 : cap ≤ maxLen)
    (K : OD P C ops l ⟨x.n, (t, .list sz cs m) :: x.env, x.S.eraseIdx k⟩ Q) : OD P C ops l x Q := by
  subst hb; exact OD.wk (Wk.give (n := x.n) (l := x.env) (S := x.S) hk ht hcs hl h1 h2) K
theorem AD.give {k t m cap sz b : Nat} {B : Blk} {cs : List D} (hk : x.S[k]? = some B) (ht : V.look t x.env = .v (.slice (some ⟨b, 0, none⟩) m cap)) (hb : B.b = b) (hcs : B.cs = cs) (hl : cs.length = m * sz) (h1 : m ≤ cap) (h2 : cap ≤ maxLen)
    (K : AD P C ops S1 T fuel ld ⟨x.n, (t, .list sz cs m) :: x.env, x.S.eraseIdx k⟩ Q) : AD P C ops S1 T fuel ld x Q := by
  subst hb; exact AD.wkSub (Wk.give (n := x.n) (l := x.env) (S := x.S) hk ht hcs hl h1 h2) (fun b hb => (List.Sublist.map Blk.b (List.eraseIdx_sublist x.S k)).subset hb) K

/-- append onto a list of one's own, nil or a row. -/
theorem OD.appendOwn {s y : Operand} {t e tt sz bytes n m cap : Nat} {ad : Option Addr} {z : Value} {cs new : List D} {Sq R : List Blk} (hw : Wants ops x o true) (ho : o.op = .call { callee := .builtin .append, args := #[s, y], argTypes := #[t, t] }) (hd : o.dst = some tt)
    (ht : P.underlying t = some (.slice e)) (hi : (P.info? e).map (fun i => (i.zero, i.size, i.bytes)) = some (some z, sz, bytes)) (hzs : z.cells.size = sz) (hsz : 0 < sz)
    (hs : opd x s = .v (.slice ad n cap)) (ho' : OwnL e sz cs n ad cap Sq) (hp : x.S.Perm (Sq ++ R)) (hl : cs.length = n * sz)
    (hy : opd x y = .list sz new m) (hone : ∀ d ∈ new, one d = true) (hm : 0 < m) (h63 : n + m ≤ maxLen) (hbytes : (n + m) * bytes ≤ 140737488355328)
    (K : ∀ b' cap', n + m ≤ cap' → cap' ≤ maxLen → OD P C ops l ⟨x.n, (tt, .v (.slice (some ⟨b', 0, none⟩) (n + m) cap')) :: x.env, ⟨b', e, cap' * sz, cs ++ new⟩ :: R⟩ Q) : OD P C ops (o :: l) x Q := by
  rcases ho' with ⟨rfl, rfl, rfl, rfl, rfl⟩ | ⟨b, rfl, h1, h2, rfl⟩
  · refine OD.appendNil hw ho hd ht hi hzs hsz hs hy hone hm (by omega) (by rw [Nat.zero_add] at hbytes; exact hbytes) fun b' cap' q1 q2 => ?_
    have := K b' cap' (by omega) q2
    rw [Nat.zero_add] at this
    exact OD.wk (Wk.perm (hp.cons _)) this
  · obtain ⟨k, hk, he⟩ := List.mem_iff_getElem.1 (hp.symm.subset (List.mem_append_left _ List.mem_cons_self))
    have hk' : x.S[k]? = some (⟨b, e, cap * sz, cs⟩ : Blk) := by rw [List.getElem?_eq_getElem hk, he]
    refine OD.append hw ho hd ht hi hzs hsz hs hk' rfl rfl rfl hl h1 h2 hy hone hm h63 hbytes fun b' cap' q1 q2 => ?_
    exact OD.wk (Wk.perm ((perm_erase hk' hp).cons _)) (K b' cap' q1 q2)

theorem AStep.appendOwn {s y : Operand} {t e tt sz bytes n m cap : Nat} {ad : Option Addr} {z : Value} {cs new : List D} {Sq R : List Blk} (hi' : ops[i]? = some o) (hw : Wants ops x o true) (ho : o.op = .call { callee := .builtin .append, args := #[s, y], argTypes := #[t, t] }) (hd : o.dst = some tt)
    (ht : P.underlying t = some (.slice e)) (hi : (P.info? e).map (fun i => (i.zero, i.size, i.bytes)) = some (some z, sz, bytes)) (hzs : z.cells.size = sz) (hsz : 0 < sz)
    (hs : opd x s = .v (.slice ad n cap)) (ho' : OwnL e sz cs n ad cap Sq) (hp : x.S.Perm (Sq ++ R)) (hl : cs.length = n * sz)
    (hy : opd x y = .list sz new m) (hone : ∀ d ∈ new, one d = true) (hm : 0 < m) (h63 : n + m ≤ maxLen) (hbytes : (n + m) * bytes ≤ 140737488355328) (hT : ∀ b ∈ T, b ∈ bks R)
    (K : ∀ b' cap', n + m ≤ cap' → cap' ≤ maxLen → AD P C ops S1 T fuel (ld.setIfInBounds i true) ⟨x.n, (tt, .v (.slice (some ⟨b', 0, none⟩) (n + m) cap')) :: x.env, ⟨b', e, cap' * sz, cs ++ new⟩ :: R⟩ Q) : AStep P C ops S1 T fuel ld x Q i := by
  rcases ho' with ⟨rfl, rfl, rfl, rfl, rfl⟩ | ⟨b, rfl, h1, h2, rfl⟩
  · refine AStep.appendNil hi' hw ho hd ht hi hzs hsz hs hy hone hm (by omega) (by rw [Nat.zero_add] at hbytes; exact hbytes) fun b' cap' q1 q2 => ?_
    have := K b' cap' (by omega) q2
    rw [Nat.zero_add] at this
    exact AD.wkSub (Wk.perm (hp.cons _)) (fun b hb => ((hp.cons _).map Blk.b).symm.subset hb) this
  · obtain ⟨k, hk, he⟩ := List.mem_iff_getElem.1 (hp.symm.subset (List.mem_append_left _ List.mem_cons_self))
    have hk' : x.S[k]? = some (⟨b, e, cap * sz, cs⟩ : Blk) := by rw [List.getElem?_eq_getElem hk, he]
    refine AStep.append hi' hw ho hd ht hi hzs hsz hs hk' rfl rfl rfl hl h1 h2 hy hone hm h63 hbytes (fun b hb => ((perm_erase hk' hp).map Blk.b).symm.subset (hT b hb)) fun b' cap' q1 q2 => ?_
    exact AD.wkSub (Wk.perm ((perm_erase hk' hp).cons _)) (fun b hb => (((perm_erase hk' hp).cons _).map Blk.b).symm.subset hb) (K b' cap' q1 q2)

/-- A store somewhere in a row. -/
theorem OD.storeAt {t : TypeId} {k b o' n : Nat} {B : Blk} {d : D} {cs' : List D} {y z : Operand} (hw : Wants ops x o true) (ho : o.op = .store t y z) (hdst : o.dst = none) (hy : opd x y = .v (.pointer (some ⟨b, o', none⟩)))
    (hk : x.S[k]? = some B) (hb : B.b = b) (hz : opd x z = d) (hj : solid d = true) (h1 : (cellsOf d).all one = true) (hn : ∀ w, (sizeOf t).run P w = .ok n w) (hln : (cellsOf d).length = n) (hl : o' + n ≤ B.cs.length) (hcs : setAll B.cs o' (cellsOf d) = cs')
    (K : OD P C ops l ⟨x.n, x.env, x.S.set k { B with cs := cs' }⟩ Q) : OD P C ops (o :: l) x Q :=
  OD.eff hw (eff_store ho hdst hy hk hb hz (fun h => by rw [h] at hj; cases hj) h1 hn hln hl hcs) fun y hy => hy ▸ K

theorem AStep.storeAt {t : TypeId} {k b o' n : Nat} {B : Blk} {d : D} {cs' : List D} {y z : Operand} (hi : ops[i]? = some o) (hw : Wants ops x o true) (ho : o.op = .store t y z) (hdst : o.dst = none) (hy : opd x y = .v (.pointer (some ⟨b, o', none⟩)))
    (hk : x.S[k]? = some B) (hb : B.b = b) (hz : opd x z = d) (hj : solid d = true) (h1 : (cellsOf d).all one = true) (hn : ∀ w, (sizeOf t).run P w = .ok n w) (hln : (cellsOf d).length = n) (hl : o' + n ≤ B.cs.length) (hcs : setAll B.cs o' (cellsOf d) = cs')
    (hT : ∀ b ∈ T, b ∈ bks (x.S.eraseIdx k))
    (K : AD P C ops S1 T fuel (ld.setIfInBounds i true) ⟨x.n, x.env, x.S.set k { B with cs := cs' }⟩ Q) : AStep P C ops S1 T fuel ld x Q i :=
  AStep.eff hi hw (eff_store ho hdst hy hk hb hz (fun h => by rw [h] at hj; cases hj) h1 hn hln hl hcs) (fun C a w hs b' hb' => hb ▸ away hs hk hT b' hb') (fun b' hb' => by
    have : b' = b := by simpa using hb'
    subst this; rw [← hb]; exact mem_bks hk) fun y hy => hy ▸ K

end Go.Proofs.YtcogdagfcndbfaaDoor.V
