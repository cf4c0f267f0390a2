/-
  A walk at the level of values. Part 5: append, calls, lists that are given up to reading; the contracts of functions.
-/
import Derived.Test.YtcogdagfcndbfaaDoorV4
namespace Go.Proofs.YtcogdagfcndbfaaDoor.V
open Go.RowKit
set_option linter.unusedVariables false
set_option linter.unusedSimpArgs false

variable {P : Program} {G : List (Nat × List Value)} {x : St} {o : Oper}

/-! ### A contract -/

structure Pre (G : List (Nat × List Value)) (X : Nat → Prop) (w : World) (S : List Blk) (args : List D) (vs : List Value) : Prop where
  ex : ∀ b, X b → b < w.heap.size ∧ b ∉ bks S
  tab : ∀ g ∈ G, (g.1 < w.heap.size ∧ g.1 ∉ bks S ∧ ¬ X g.1) ∧ ∀ i v, g.2[i]? = some v → w.cell? ⟨g.1, i, none⟩ = some v
  own : Own w (live X S) S
  args : RepL w (live X S) args vs

/-- Called with what reads as 'args', where it owns S, f returns what meets 'post'. -/
def VC (P : Program) (G : List (Nat × List Value)) (f : FuncId) (args : List D) (S : List Blk) (post : D → List Blk → Prop) : Prop :=
  ∀ (X : Nat → Prop) (w : World) (vs : List Value), Pre G X w S args vs → Calls P f vs.toArray w fun e w' => ∃ v r S', e = .returned v ∧ post r S' ∧ Own w' (live X S') S' ∧ Rep w' (live X S') r v ∧ Fr w (bks S) w' (bks S')

theorem VC.mono {f : FuncId} {args : List D} {S : List Blk} {post post' : D → List Blk → Prop} (h : VC P G f args S post) (k : ∀ r S', post r S' → post' r S') : VC P G f args S post' := fun X w vs hp =>
  (h X w vs hp).mono fun e w' ⟨v, r, S', h1, h2, h3⟩ => ⟨v, r, S', h1, k r S' h2, h3⟩

/-- A contract that returns one thing, with no blocks of one's own. -/
abbrev VP (P : Program) (G : List (Nat × List Value)) (f : FuncId) (args : List D) (r : D) : Prop := VC P G f args [] fun r' S' => r' = r ∧ S' = []

theorem live_perm {X : Nat → Prop} {S Sf R : List Blk} (hp : S.Perm (Sf ++ R)) : live X S = live (fun b => X b ∨ b ∈ bks R) Sf := by
  funext b
  have : (bks S).Perm (bks Sf ++ bks R) := by have := hp.map Blk.b; simpa [bks] using this
  have := this.mem_iff (a := b)
  simp only [live, List.mem_append] at *
  rw [this]
  exact propext ⟨fun h => by rcases h with h | h | h <;> simp [h], fun h => by rcases h with (h | h) | h <;> simp [h]⟩

/-- The call. -/
theorem Sim.call {C : Ctx} {a : Act} {w : World} (h : Sim C x a w) (hG : C.G = G) {f : FuncId} {args : List D} {vs : List Value} {Sf R : List Blk} {post : D → List Blk → Prop} (hc : VC P G f args Sf post) (hp : x.S.Perm (Sf ++ R)) (hr : RepL w (live C.X x.S) args vs) :
    Calls P f vs.toArray w fun e w' => ∃ v r S', e = .returned v ∧ post r S' ∧ Rep w' (live C.X (S' ++ R)) r v ∧ Sim C ⟨x.n, x.env, S' ++ R⟩ a w' ∧ Chg (bks Sf) w w' ∧ Fr w (bks x.S) w' (bks (S' ++ R)) := by
  have hb : (bks x.S).Perm (bks Sf ++ bks R) := by have := hp.map Blk.b; simpa [bks] using this
  have hL := live_perm (X := C.X) hp
  have hnd : (bks Sf ++ bks R).Nodup := hb.nodup_iff.1 h.own.apart
  obtain ⟨n1, n2, n3⟩ := List.nodup_append.1 hnd
  have hRlt : ∀ b, b ∈ bks R → b < w.heap.size := fun b hbm => by
    obtain ⟨B, hB, rfl⟩ := List.mem_map.1 hbm
    exact (h.own.at_ B (hp.symm.subset (List.mem_append_right _ hB))).1
  have hpre : Pre G (fun b => C.X b ∨ b ∈ bks R) w Sf args vs := by
    refine ⟨fun b hx => ?_, fun g hg => ?_, ⟨fun B hB => ?_, n1⟩, ?_⟩
    · rcases hx with hx | hx
      · obtain ⟨q1, q2⟩ := h.ex b hx
        exact ⟨Nat.lt_of_lt_of_le q1 h.fr.size, fun hm => (h.fr.block b q1 q2).2 (hb.symm.subset (List.mem_append_left _ hm))⟩
      · exact ⟨hRlt b hx, fun hm => n3 b hm b hx rfl⟩
    · rw [← hG] at hg
      obtain ⟨⟨q1, q2, q3⟩, q4⟩ := h.tab g hg
      have q5 := (h.fr.block g.1 q1 q2).2
      refine ⟨⟨Nat.lt_of_lt_of_le q1 h.fr.size, fun hm => q5 (hb.symm.subset (List.mem_append_left _ hm)), fun hx => ?_⟩, fun i v hi => h.tabAt hg hi⟩
      rcases hx with hx | hx
      · exact q3 hx
      · exact q5 (hb.symm.subset (List.mem_append_right _ hx))
    · rw [← hL]; exact h.own.at_ B (hp.symm.subset (List.mem_append_left _ hB))
    · rw [← hL]; exact hr
  refine (hc _ w vs hpre).mono fun e w' ⟨v, r, S', h1, h2, h3, h4, h5⟩ => ⟨v, r, S', h1, h2, ?_, ?_, ⟨h5.size, fun b hb' hn => (h5.block b hb' hn).1⟩, ?_⟩
  · have : live C.X (S' ++ R) = live (fun b => C.X b ∨ b ∈ bks R) S' := live_perm (List.Perm.refl _)
    rw [this]; exact h4
  · have hL' : live C.X (S' ++ R) = live (fun b => C.X b ∨ b ∈ bks R) S' := live_perm (List.Perm.refl _)
    have H : ∀ b, b < w.heap.size → ¬ live C.X x.S b → w'.heap[b]? = w.heap[b]? ∧ ¬ live C.X (S' ++ R) b := fun b hlt hn => by
      rw [hL] at hn
      have hnSf : b ∉ bks Sf := fun hm => hn (.inr hm)
      obtain ⟨q1, q2⟩ := h5.block b hlt hnSf
      refine ⟨q1, fun hl => ?_⟩
      rw [hL'] at hl
      rcases hl with hl | hl
      · exact hn (.inl hl)
      · exact q2 hl
    refine ⟨h.defers, h.size, fun t ht => (h.env t ht).mono H, ⟨fun B hB => ?_, ?_⟩, ?_, h.ex, h.tab⟩
    · rcases List.mem_append.1 hB with hB | hB
      · have := h3.at_ B hB
        rw [← hL'] at this; exact this
      · obtain ⟨r0, cur, r1, r2, r3, r4⟩ := h.own.at_ B (hp.symm.subset (List.mem_append_right _ hB))
        have hBm : B.b ∈ bks R := List.mem_map.2 ⟨B, hB, rfl⟩
        have hnSf : B.b ∉ bks Sf := fun hm => n3 B.b hm B.b hBm rfl
        have hh := (h5.block B.b r0 hnSf).1
        refine ⟨lt_of_same r0 hh, cur, hh.trans r1, r2, r3, fun i hi => ?_⟩
        obtain ⟨u, hu, hq⟩ := r4 i hi
        exact ⟨u, hu, hq.mono H⟩
    · show (bks (S' ++ R)).Nodup
      have : bks (S' ++ R) = bks S' ++ bks R := by simp [bks]
      rw [this]
      refine List.nodup_append.2 ⟨h3.apart, n2, fun b hb1 c hc1 he => ?_⟩
      subst he
      have hnSf : b ∉ bks Sf := fun hm => n3 b hm b hc1 rfl
      exact (h5.block b (hRlt b hc1) hnSf).2 hb1
    · refine ⟨h5.os.trans h.fr.os, h5.tape.trans h.fr.tape, h5.output.trans h.fr.output, Nat.le_trans h.fr.size h5.size, fun b hb' hn => ?_⟩
      obtain ⟨q1, q2⟩ := h.fr.block b hb' hn
      have hn1 : b ∉ bks Sf := fun hm => q2 (hb.symm.subset (List.mem_append_left _ hm))
      have hn2 : b ∉ bks R := fun hm => q2 (hb.symm.subset (List.mem_append_right _ hm))
      obtain ⟨q3, q4⟩ := h5.block b (Nat.lt_of_lt_of_le hb' h.fr.size) hn1
      refine ⟨q3.trans q1, fun hm => ?_⟩
      have : bks (S' ++ R) = bks S' ++ bks R := by simp [bks]
      rw [this] at hm
      rcases List.mem_append.1 hm with hm | hm
      · exact q4 hm
      · exact hn2 hm
  · refine ⟨h5.os, h5.tape, h5.output, h5.size, fun b hb' hn => ?_⟩
    have hn1 : b ∉ bks Sf := fun hm => hn (hb.symm.subset (List.mem_append_left _ hm))
    have hn2 : b ∉ bks R := fun hm => hn (hb.symm.subset (List.mem_append_right _ hm))
    obtain ⟨q3, q4⟩ := h5.block b hb' hn1
    refine ⟨q3, fun hm => ?_⟩
    have : bks (S' ++ R) = bks S' ++ bks R := by simp [bks]
    rw [this] at hm
    rcases List.mem_append.1 hm with hm | hm
    · exact q4 hm
    · exact hn2 hm

theorem RepL.opds {C : Ctx} {a : Act} {w : World} (h : Sim C x a w) (as : List Operand) : RepL w (live C.X x.S) (as.map (opd x)) (as.map a.eval) :=
  ⟨by simp, fun i h1 h2 => by simp only [List.getElem_map]; exact h.eval _⟩

theorem RepL.append {w : World} {L : Nat → Prop} {ds ds' : List D} {vs vs' : List Value} (h : RepL w L ds vs) (h' : RepL w L ds' vs') : RepL w L (ds ++ ds') (vs ++ vs') :=
  ⟨by simp [h.1, h'.1], fun i h1 h2 => by
    by_cases hi : i < ds.length
    · rw [List.getElem_append_left hi, List.getElem_append_left (by rw [h.1]; exact hi)]
      exact h.2 i _ _
    · rw [List.getElem_append_right (by omega), List.getElem_append_right (by rw [h.1]; omega)]
      have := h.1
      simp only [this]
      exact h'.2 _ _ _⟩

def called (x : St) (t : Nat) (R : List Blk) (post : D → List Blk → Prop) (y : St) : Prop := ∃ r S', post r S' ∧ y = ⟨x.n, (t, r) :: x.env, S' ++ R⟩

/-- A call of a function, known by its number. -/
theorem eff_call {f t : Nat} {fo : Operand} {as : Array Operand} {ts : Array TypeId} {args : List D} {Sf R : List Blk} {post : D → List Blk → Prop} (ho : o.op = .call { callee := .value fo, args := as, argTypes := ts }) (hd : o.dst = some t)
    (hf : fo = .func f) (hcall : ∀ args w, (callFunc f args).run P w = .ok (.enter f args) w) (ha : as.toList.map (opd x) = args) (hp : x.S.Perm (Sf ++ R)) (hc : VC P G f args Sf post) :
    Eff P G x o (bks Sf) (called x t R post) := fun C a w K Q hG h hK => by
  subst hf ha
  have hr := RepL.opds h as.toList
  have hrun : (execOp a.eval o).run P w = .ok (.enter f (as.toList.map a.eval).toArray) w := by
    unfold execOp
    have e : as.map a.eval = (as.toList.map a.eval).toArray := by
      rw [← Array.toList_map, Array.toArray_toList]
    simp only [ho, resolve, Act.eval, Deferred.ofValue, Sem.run_bind, Sem.run_pure, Result.andThen_ok, invoke, e]
    simp [hcall]
  unfold Oper.wp
  rw [hrun, Oper.upon_enter, hd]
  refine (h.call hG hc hp hr).mono fun e w' ⟨v, r, S', h1, h2, h3, h4, h5, h6⟩ => ?_
  subst h1
  exact hK _ _ _ ⟨r, S', h2, rfl⟩ (h4.put h3) h5 h6

/-- A call of a function value. -/
theorem eff_callv {f t : Nat} {fo : Operand} {as : Array Operand} {ts : Array TypeId} {args caps : List D} {Sf R : List Blk} {post : D → List Blk → Prop} (ho : o.op = .call { callee := .value fo, args := as, argTypes := ts }) (hd : o.dst = some t)
    (hf : opd x fo = .clo (.func f) caps) (hcall : ∀ args w, (callFunc f args).run P w = .ok (.enter f args) w) (ha : as.toList.map (opd x) ++ caps = args) (hp : x.S.Perm (Sf ++ R)) (hc : VC P G f args Sf post) :
    Eff P G x o (bks Sf) (called x t R post) := fun C a w K Q hG h hK => by
  subst ha
  have hr := RepL.opds h as.toList
  have hfv := h.eval fo
  rw [hf] at hfv
  generalize hg : a.eval fo = u at hfv
  cases hfv with
  | clo _ _ vs hl hcr =>
    have hrun : (execOp a.eval o).run P w = .ok (.enter f (as.toList.map a.eval ++ vs).toArray) w := by
      unfold execOp
      have e : as.map a.eval ++ vs.toArray = (as.toList.map a.eval ++ vs).toArray := by
        rw [← List.append_toArray, ← Array.toList_map, Array.toArray_toList]
      simp only [ho, resolve, hg, Deferred.ofValue, Sem.run_bind, Sem.run_pure, Result.andThen_ok, invoke]
      simp [hcall]
    unfold Oper.wp
    rw [hrun, Oper.upon_enter, hd]
    refine (h.call hG hc hp (hr.append ⟨hl, hcr⟩)).mono fun e w' ⟨v, r, S', h1, h2, h3, h4, h5, h6⟩ => ?_
    subst h1
    exact hK _ _ _ ⟨r, S', h2, rfl⟩ (h4.put h3) h5 h6

/-- The same where the function holds nothing. -/
theorem eff_callf {f t : Nat} {fo : Operand} {as : Array Operand} {ts : Array TypeId} {args : List D} {Sf R : List Blk} {post : D → List Blk → Prop} (ho : o.op = .call { callee := .value fo, args := as, argTypes := ts }) (hd : o.dst = some t)
    (hf : opd x fo = .v (.func (.func f) #[] #[])) (hcall : ∀ args w, (callFunc f args).run P w = .ok (.enter f args) w) (ha : as.toList.map (opd x) = args) (hp : x.S.Perm (Sf ++ R)) (hc : VC P G f args Sf post) :
    Eff P G x o (bks Sf) (called x t R post) := fun C a w K Q hG h hK => by
  subst ha
  have hr := RepL.opds h as.toList
  have hrun : (execOp a.eval o).run P w = .ok (.enter f (as.toList.map a.eval).toArray) w := by
    unfold execOp
    have e : as.map a.eval = (as.toList.map a.eval).toArray := by
      rw [← Array.toList_map, Array.toArray_toList]
    simp only [ho, resolve, h.flat hf, Deferred.ofValue, Sem.run_bind, Sem.run_pure, Result.andThen_ok, invoke, e]
    simp [hcall]
  unfold Oper.wp
  rw [hrun, Oper.upon_enter, hd]
  refine (h.call hG hc hp hr).mono fun e w' ⟨v, r, S', h1, h2, h3, h4, h5, h6⟩ => ?_
  subst h1
  exact hK _ _ _ ⟨r, S', h2, rfl⟩ (h4.put h3) h5 h6

theorem perm_pick {S : List Blk} {k : Nat} {B : Blk} (hk : S[k]? = some B) : S.Perm (B :: S.eraseIdx k) := by
  obtain ⟨h1, h2⟩ := List.getElem?_eq_some_iff.1 hk
  subst h2
  clear hk
  induction S generalizing k with
  | nil => simp at h1
  | cons A S ih =>
    cases k with
    | zero => exact List.Perm.refl _
    | succ k =>
      have h1' : k < S.length := by simpa using h1
      rw [List.eraseIdx_cons_succ]
      exact ((ih h1').cons A).trans (List.Perm.swap _ _ _)

theorem perm_none (S : List Blk) : S.Perm ([] ++ S) := List.Perm.refl _
theorem perm_one {S : List Blk} {k : Nat} {B : Blk} (hk : S[k]? = some B) : S.Perm ([B] ++ S.eraseIdx k) := perm_pick hk
theorem perm_two {S : List Blk} {k k' : Nat} {B B' : Blk} (hk : S[k]? = some B) (hk' : (S.eraseIdx k)[k']? = some B') : S.Perm ([B, B'] ++ (S.eraseIdx k).eraseIdx k') := (perm_pick hk).trans ((perm_pick hk').cons B)
theorem perm_three {S : List Blk} {k k' k'' : Nat} {B B' B'' : Blk} (hk : S[k]? = some B) (hk' : (S.eraseIdx k)[k']? = some B') (hk'' : ((S.eraseIdx k).eraseIdx k')[k'']? = some B'') : S.Perm ([B, B', B''] ++ ((S.eraseIdx k).eraseIdx k').eraseIdx k'') := (perm_pick hk).trans ((perm_two hk' hk'').cons B)

/-! ### A list of one's own is given up to reading -/

/-- What lies in an owned block, as a list. -/
theorem Rep.given {w : World} {X : Nat → Prop} {S : List Blk} {k : Nat} {B : Blk} {sz n cap : Nat} (h : Own w (live X S) S) (hX : ∀ b, X b → b ∉ bks S) (hk : S[k]? = some B) (hl : B.cs.length = n * sz) (h1 : n ≤ cap) (h2 : cap ≤ maxLen) :
    Rep w (live X (S.eraseIdx k)) (.list sz B.cs n) (.slice (some ⟨B.b, 0, none⟩) n cap) := by
  have hm := List.mem_of_getElem? hk
  obtain ⟨r0, cur, r1, r2, r3, r4⟩ := h.at_ B hm
  have hsub : (bks (S.eraseIdx k)).Sublist (bks S) := List.Sublist.map _ (List.eraseIdx_sublist S k)
  have hL : ¬ live X (S.eraseIdx k) B.b := fun hl => by
    rcases hl with hl | hl
    · exact hX _ hl (List.mem_map.2 ⟨B, hm, rfl⟩)
    · have hp : (bks S).Perm (B.b :: bks (S.eraseIdx k)) := by have := (perm_pick hk).map Blk.b; simpa [bks] using this
      have hnd := hp.nodup_iff.1 h.apart
      exact (List.nodup_cons.1 hnd).1 hl
  refine .list sz B.cs n B.b 0 cap (fun i => cur.getD i undef) hl h1 h2 r0 hL (fun i hi => ?_) (fun i hi => ?_)
  · obtain ⟨u, hu, _⟩ := r4 i hi
    rw [Nat.zero_add, cell_blk r1 hu]
    simp [hu]
  · obtain ⟨u, hu, hq⟩ := r4 i hi
    simp only [Array.getD_eq_getD_getElem?, hu, Option.getD_some]
    exact hq.mono fun b _ hn => ⟨rfl, fun hl => hn (hl.imp id fun q => hsub.subset q)⟩

theorem Sim.exS {C : Ctx} {a : Act} {w : World} (h : Sim C x a w) : ∀ b, C.X b → b ∉ bks x.S := fun b hb => (h.fr.block b (h.ex b hb).1 (h.ex b hb).2).2

/-- A slot's own list becomes one that nobody writes any more; its block is given up. -/
theorem Wk.give {n : Nat} {l : List (Nat × D)} {S : List Blk} {k t m cap sz : Nat} {B : Blk} {cs : List D} (hk : S[k]? = some B) (ht : look t l = .v (.slice (some ⟨B.b, 0, none⟩) m cap)) (hcs : B.cs = cs) (hl : cs.length = m * sz) (h1 : m ≤ cap) (h2 : cap ≤ maxLen) :
    Wk ⟨n, l, S⟩ ⟨n, (t, .list sz cs m) :: l, S.eraseIdx k⟩ := fun C a w h => by
  subst hcs
  have hd := Wk.drop n l S (S.eraseIdx k) (List.eraseIdx_sublist S k) C a w h
  refine ⟨hd.defers, hd.size, fun i hi => ?_, hd.own, hd.fr, hd.ex, hd.tab⟩
  simp only [look_cons]
  by_cases e : t = i
  · subst e
    rw [if_pos rfl]
    have hv := h.env t hi
    simp only [ht] at hv
    rw [hv.v_eq]
    exact Rep.given h.own h.exS hk hl h1 h2
  · rw [if_neg e]; exact hd.env i hi

/-- The nil slice is an empty list. -/
theorem Wk.giveNil {n : Nat} {l : List (Nat × D)} {S : List Blk} {t sz : Nat} (ht : look t l = .v (.slice none 0 0)) : Wk ⟨n, l, S⟩ ⟨n, (t, .list sz [] 0) :: l, S⟩ := fun C a w h => by
  refine ⟨h.defers, h.size, fun i hi => ?_, h.own, h.fr, h.ex, h.tab⟩
  simp only [look_cons]
  by_cases e : t = i
  · subst e
    rw [if_pos rfl]
    have hv := h.env t hi
    simp only [ht] at hv
    rw [hv.v_eq]
    exact .nil sz
  · rw [if_neg e]; exact h.env i hi

/-- The same for a list that lies in a cell of another owned block. -/
theorem Wk.giveIn {n : Nat} {l : List (Nat × D)} {S S' : List Blk} {k j i m cap sz : Nat} {B A : Blk} {cs cs' : List D} (hk : S[k]? = some B) (hj : (S.eraseIdx k)[j]? = some A) (hi : A.cs[i]? = some (.v (.slice (some ⟨B.b, 0, none⟩) m cap))) (hcs : B.cs = cs) (hl : cs.length = m * sz) (h1 : m ≤ cap) (h2 : cap ≤ maxLen)
    (hcs' : A.cs.set i (.list sz cs m) = cs') (hS : (S.eraseIdx k).set j { A with cs := cs' } = S') : Wk ⟨n, l, S⟩ ⟨n, l, S'⟩ := fun C a w h => by
  subst hcs hcs' hS
  have hd := Wk.drop n l S (S.eraseIdx k) (List.eraseIdx_sublist S k) C a w h
  have hrep := Rep.given h.own h.exS hk hl h1 h2
  have hjl := (List.getElem?_eq_some_iff.1 hj).1
  have hjA := (List.getElem?_eq_some_iff.1 hj).2
  have hbks : bks ((S.eraseIdx k).set j { A with cs := A.cs.set i (.list sz B.cs m) }) = bks (S.eraseIdx k) := by
    unfold bks
    rw [List.map_set]
    apply List.ext_getElem (by simp)
    intro i q1 q2
    rw [List.getElem_set]
    split
    · rename_i e; subst e; simp [hjA]
    · rfl
  have hlive : live C.X ((S.eraseIdx k).set j { A with cs := A.cs.set i (.list sz B.cs m) }) = live C.X (S.eraseIdx k) := by funext b; simp only [live, hbks]
  refine ⟨hd.defers, hd.size, fun t ht => ?_, ⟨fun B' hB' => ?_, ?_⟩, ?_, hd.ex, hd.tab⟩
  · simp only [hlive]; exact hd.env t ht
  · simp only [hlive]
    obtain ⟨p, hp, hpe⟩ := List.mem_iff_getElem.1 hB'
    rw [List.length_set] at hp
    rw [List.getElem_set] at hpe
    by_cases e : j = p
    · rw [if_pos e] at hpe
      subst hpe
      obtain ⟨r0, cur, r1, r2, r3, r4⟩ := hd.own.at_ A (List.mem_of_getElem? hj)
      refine ⟨r0, cur, r1, r2, by simpa using r3, fun q hq => ?_⟩
      simp only [List.length_set] at hq
      obtain ⟨u, hu, hqr⟩ := r4 q hq
      refine ⟨u, hu, ?_⟩
      rw [List.getElem_set]
      split
      · rename_i he
        subst he
        have := (List.getElem?_eq_some_iff.1 hi).2
        rw [this] at hqr
        rw [hqr.v_eq]; exact hrep
      · exact hqr
    · rw [if_neg e] at hpe
      subst hpe
      exact hd.own.at_ _ (List.getElem_mem hp)
  · simp only [hbks]; exact hd.own.apart
  · simp only [hbks]; exact hd.fr

end Go.Proofs.YtcogdagfcndbfaaDoor.V
