/-
  Locks, plainly: what Ask and Leave make of locks that may be, may be.
-/
import Derived.Test.YtcogdagfcndbfaaDoorLkP
namespace Go.Proofs.YtcogdagfcndbfaaDoor.Lk
set_option linter.unusedVariables false
set_option linter.unusedSimpArgs false

/-- Locks that may be, but for those who wait: they may be first now. -/
structure WG (held queue : List L) : Prop where
  few : held.length + queue.length ≤ 200
  shape : ∀ h ∈ held, shapeF h = 0
  keys : held.Pairwise (fun a b => hasK b.t b.th a = false)
  free : ∀ h ∈ held, freeB held h = true
  qshape : ∀ q ∈ queue, shapeF q = 0
  qkeys : queue.Pairwise (fun a b => (a.t == b.t) = false)
  wrong : ∀ q ∈ queue, wrongQ held q = false

theorem badH_iff {held : List L} {i : Nat} {h : L} : badH held i h = false ↔ findI (held.take i) h.t h.th < 0 ∧ freeB held h = true := by
  unfold badH
  rw [Bool.or_eq_false_iff, decide_eq_false_iff_not, Bool.not_eq_false']
  constructor <;> rintro ⟨h1, h2⟩ <;> exact ⟨by omega, h2⟩
theorem badQ_iff {held queue : List L} {i : Nat} {q : L} : badQ held queue i q = false ↔ shapeF q = 0 ∧ (queue.take i).any (fun x => x.t == q.t) = false ∧ wrongQ held q = false ∧ firstQ held (queue.take i) q = false := by
  unfold badQ
  simp only [Bool.or_eq_false_iff, bne_eq_false_iff_eq]
  constructor
  · rintro ⟨⟨⟨h1, h2⟩, h3⟩, h4⟩; exact ⟨h1, h2, h3, h4⟩
  · rintro ⟨h1, h2, h3, h4⟩; exact ⟨⟨⟨h1, h2⟩, h3⟩, h4⟩

theorem Good.wg {held queue : List L} (g : Good held queue) : WG held queue where
  few := g.few
  shape := g.shape
  keys := List.pairwise_iff_getElem.2 fun i j hi hj hij => by
    have := findI_neg.1 (badH_iff.1 (g.heldOk j hj)).1
    exact this _ (List.mem_iff_getElem.2 ⟨i, by rw [List.length_take]; omega, by rw [List.getElem_take]⟩)
  free := fun h hh => by
    obtain ⟨i, hi, rfl⟩ := List.mem_iff_getElem.1 hh
    exact (badH_iff.1 (g.heldOk i hi)).2
  qshape := fun h hh => by
    obtain ⟨i, hi, rfl⟩ := List.mem_iff_getElem.1 hh
    exact (badQ_iff.1 (g.queueOk i hi)).1
  qkeys := List.pairwise_iff_getElem.2 fun i j hi hj hij => by
    have := List.any_eq_false.1 (badQ_iff.1 (g.queueOk j hj)).2.1
    have := this _ (List.mem_iff_getElem.2 ⟨i, by rw [List.length_take]; omega, by rw [List.getElem_take]⟩)
    simpa using this
  wrong := fun h hh => by
    obtain ⟨i, hi, rfl⟩ := List.mem_iff_getElem.1 hh
    exact (badQ_iff.1 (g.queueOk i hi)).2.2.1

theorem WG.good {held queue : List L} (g : WG held queue) (hf : ∀ i (hi : i < queue.length), firstQ held (queue.take i) queue[i] = false) : Good held queue where
  few := g.few
  shape := g.shape
  heldOk := fun i hi => badH_iff.2 ⟨findI_neg.2 fun x hx => by
    obtain ⟨j, hj, rfl⟩ := List.mem_iff_getElem.1 hx
    rw [List.length_take] at hj
    rw [List.getElem_take]
    exact List.pairwise_iff_getElem.1 g.keys j i (by omega) hi (by omega), g.free _ (List.getElem_mem hi)⟩
  queueOk := fun i hi => badQ_iff.2 ⟨g.qshape _ (List.getElem_mem hi), List.any_eq_false.2 fun x hx => by
    obtain ⟨j, hj, rfl⟩ := List.mem_iff_getElem.1 hx
    rw [List.length_take] at hj
    rw [List.getElem_take]
    have := List.pairwise_iff_getElem.1 g.qkeys j i (by omega) hi (by omega)
    simpa using this, g.wrong _ (List.getElem_mem hi), hf i hi⟩

theorem good_nil : Good [] [] := ⟨by decide, (fun _ h => by cases h), (fun i hi => by simp at hi), (fun i hi => by simp at hi)⟩

/-! ### have -/

/-- Alike, as far as clashes go. -/
def Like (y x : L) : Prop := y.t = x.t ∧ y.th.toList = x.th.toList ∧ y.m = x.m
theorem Like.refl (x : L) : Like x x := ⟨rfl, rfl, rfl⟩
theorem Like.clash1 {y x z : L} (h : Like y x) : clash y z = clash x z := by obtain ⟨h1, h2, h3⟩ := h; unfold clash; rw [h1, h2, h3]
theorem Like.clash2 {y x z : L} (h : Like y x) : clash z y = clash z x := by obtain ⟨h1, h2, h3⟩ := h; unfold clash; rw [h1, h2, h3]

theorem clash_sym {a b : L} (ha : modeB a.m = true) (hb : modeB b.m = true) : clash a b = clash b a := by
  unfold clash
  rw [fits_sym hb ha]
  have e1 : (b.th.toList == a.th.toList) = (a.th.toList == b.th.toList) := by rw [Bool.eq_iff_iff, beq_iff_eq, beq_iff_eq]; exact eq_comm
  have e2 : (b.t != a.t) = (a.t != b.t) := by rw [Bool.eq_iff_iff, bne_iff_ne, bne_iff_ne]; exact ne_comm
  rw [e1, e2]

theorem freeB_iff {held : List L} {x : L} : freeB held x = true ↔ ∀ h ∈ held, clash x h = false := by
  unfold freeB
  rw [Bool.not_eq_true', List.any_eq_false]
  constructor <;> intro h y hy <;> simpa using h y hy

theorem have_mem {held : List L} {x y : L} (hk : held.Pairwise (fun a b => hasK b.t b.th a = false)) (h : y ∈ haveL held x) : (y ∈ held ∧ hasK x.t x.th y = false) ∨ Like y x := by
  unfold haveL at h
  cases hf : held.findIdx? (hasK x.t x.th) with
  | none =>
    rw [hf] at h
    rcases List.mem_append.1 h with h | h
    · exact .inl ⟨h, List.findIdx?_eq_none_iff.1 hf y h⟩
    · simp only [List.mem_singleton] at h; subst h; exact .inr (Like.refl _)
  | some k =>
    rw [hf] at h
    obtain ⟨h1, h2, h3⟩ := List.findIdx?_eq_some_iff_getElem.1 hf
    obtain ⟨j, hj, rfl⟩ := List.mem_iff_getElem.1 h
    simp only [List.length_modify] at hj
    simp only [List.getElem_modify]
    by_cases e : k = j
    · subst e
      simp only [if_true]
      obtain ⟨q1, q2⟩ := hasK_iff.1 h2
      exact .inr ⟨q1, q2, rfl⟩
    · simp only [if_neg e]
      refine .inl ⟨List.getElem_mem hj, ?_⟩
      obtain ⟨q1, q2⟩ := hasK_iff.1 h2
      rcases Nat.lt_or_gt_of_ne e with h4 | h4
      · have := List.pairwise_iff_getElem.1 hk k j h1 hj h4
        cases hq : hasK x.t x.th held[j] with
        | false => rfl
        | true =>
          obtain ⟨p1, p2⟩ := hasK_iff.1 hq
          rw [hasK_iff.2 ⟨q1.trans p1.symm, q2.trans p2.symm⟩] at this
          cases this
      · simpa using h3 j h4

theorem have_old {held : List L} {x h : L} (hh : h ∈ held) (hn : hasK x.t x.th h = false) : h ∈ haveL held x := by
  unfold haveL
  cases hf : held.findIdx? (hasK x.t x.th) with
  | none => exact List.mem_append_left _ hh
  | some k =>
    obtain ⟨h1, h2, h3⟩ := List.findIdx?_eq_some_iff_getElem.1 hf
    obtain ⟨j, hj, rfl⟩ := List.mem_iff_getElem.1 hh
    refine List.mem_iff_getElem.2 ⟨j, by simpa using hj, ?_⟩
    simp only [List.getElem_modify]
    rw [if_neg]
    intro e; subst e
    rw [hn] at h2; cases h2

theorem have_new {held : List L} {x : L} : ∃ y ∈ haveL held x, Like y x := by
  unfold haveL
  cases hf : held.findIdx? (hasK x.t x.th) with
  | none => exact ⟨x, List.mem_append_right _ List.mem_cons_self, Like.refl _⟩
  | some k =>
    obtain ⟨h1, h2, h3⟩ := List.findIdx?_eq_some_iff_getElem.1 hf
    obtain ⟨q1, q2⟩ := hasK_iff.1 h2
    exact ⟨{ held[k] with m := x.m }, List.mem_iff_getElem.2 ⟨k, by simpa using h1, by simp only [List.getElem_modify, if_true]⟩, q1, q2, rfl⟩

theorem have_keys {held : List L} {x : L} (hk : held.Pairwise (fun a b => hasK b.t b.th a = false)) : (haveL held x).Pairwise (fun a b => hasK b.t b.th a = false) := by
  unfold haveL
  cases hf : held.findIdx? (hasK x.t x.th) with
  | none =>
    rw [List.pairwise_append]
    refine ⟨hk, List.pairwise_singleton _ _, fun a ha b hb => ?_⟩
    simp only [List.mem_singleton] at hb; subst hb
    exact List.findIdx?_eq_none_iff.1 hf a ha
  | some k =>
    refine List.pairwise_iff_getElem.2 fun i j hi hj hij => ?_
    simp only [List.length_modify] at hi hj
    have := List.pairwise_iff_getElem.1 hk i j hi hj hij
    simp only [List.getElem_modify]
    by_cases e1 : k = i <;> by_cases e2 : k = j <;> simp only [e1, e2, if_true, if_false] <;> (try split) <;> exact this

theorem have_shape {held : List L} {x : L} (hs : ∀ h ∈ held, shapeF h = 0) (hx : shapeF x = 0) : ∀ y ∈ haveL held x, shapeF y = 0 := by
  intro y hy
  unfold haveL at hy
  cases hf : held.findIdx? (hasK x.t x.th) with
  | none =>
    rw [hf] at hy
    rcases List.mem_append.1 hy with h | h
    · exact hs y h
    · simp only [List.mem_singleton] at h; subst h; exact hx
  | some k =>
    rw [hf] at hy
    obtain ⟨j, hj, rfl⟩ := List.mem_iff_getElem.1 hy
    simp only [List.length_modify] at hj
    simp only [List.getElem_modify]
    have := shape_iff.1 (hs _ (List.getElem_mem hj))
    split
    · exact shape_iff.2 ⟨this.1, this.2.1, (shape_iff.1 hx).2.2⟩
    · exact hs _ (List.getElem_mem hj)

theorem have_free {held : List L} {x : L} (hk : held.Pairwise (fun a b => hasK b.t b.th a = false)) (hs : ∀ h ∈ held, modeB h.m = true) (hx : modeB x.m = true) (hf : ∀ h ∈ held, freeB held h = true) (hfx : freeB held x = true) :
    ∀ y ∈ haveL held x, freeB (haveL held x) y = true := by
  intro y hy
  rw [freeB_iff]
  intro z hz
  rcases have_mem hk hy with ⟨h1, h2⟩ | h1 <;> rcases have_mem hk hz with ⟨h3, h4⟩ | h3
  · exact freeB_iff.1 (hf y h1) z h3
  · rw [h3.clash2, clash_sym (hs y h1) hx]
    exact freeB_iff.1 hfx y h1
  · rw [h1.clash1]; exact freeB_iff.1 hfx z h3
  · unfold clash
    rw [h1.1, h3.1]; simp

theorem find_modify {p : L → Bool} {f : L → L} (hp : ∀ a, p (f a) = p a) : ∀ (l : List L) (k : Nat), (∀ h : k < l.length, p l[k] = false) → (l.modify k f).find? p = l.find? p
  | [], k, _ => by simp
  | a :: l, 0, h => by
    have : p a = false := h (by simp)
    simp [List.find?_cons, hp, this]
  | a :: l, k + 1, h => by
    rw [List.modify_succ_cons, List.find?_cons, List.find?_cons, find_modify hp l k (fun hk => h (by simpa using hk))]

theorem own_have {held : List L} {x q : L} (hq : q.t ≠ x.t) : ownM (haveL held x) q = ownM held q := by
  unfold ownM haveL
  cases hf : held.findIdx? (hasK x.t x.th) with
  | none =>
    have : hasK q.t q.th x = false := by
      cases e : hasK q.t q.th x with
      | false => rfl
      | true => exact absurd (hasK_iff.1 e).1.symm hq
    rw [List.find?_append]
    simp [this]
  | some k =>
    obtain ⟨h1, h2, h3⟩ := List.findIdx?_eq_some_iff_getElem.1 hf
    simp only []
    rw [find_modify (p := hasK q.t q.th) (f := fun h => { h with m := x.m }) (fun a => rfl) held k (fun hk => by
      cases e : hasK q.t q.th held[k] with
      | false => rfl
      | true => exact absurd ((hasK_iff.1 e).1.symm.trans (hasK_iff.1 h2).1) hq)]

theorem find_own {held : List L} {q : L} : 0 ≤ findI held q.t q.th ↔ ownM held q ≠ none := by
  rw [findI_nn]
  unfold ownM
  cases h : held.find? (hasK q.t q.th) with
  | none =>
    simp only [Option.map_none, ne_eq, not_true, iff_false]
    rintro ⟨y, hy, hk⟩
    have := List.find?_eq_none.1 h y hy
    exact this hk
  | some y =>
    simp only [Option.map_some, ne_eq, reduceCtorEq, not_false_eq_true, iff_true]
    exact ⟨y, List.mem_of_find?_eq_some h, List.find?_some h⟩

theorem own_mem {held : List L} {x h : L} (hk : held.Pairwise (fun a b => hasK b.t b.th a = false)) (hh : h ∈ held) (hx : hasK x.t x.th h = true) : ownM held x = some h.m := by
  unfold ownM
  cases hf : held.find? (hasK x.t x.th) with
  | none => exact absurd hx (List.find?_eq_none.1 hf h hh)
  | some y =>
    have h1 := List.mem_of_find?_eq_some hf
    have h2 := List.find?_some hf
    obtain ⟨i, hi, rfl⟩ := List.mem_iff_getElem.1 hh
    obtain ⟨j, hj, rfl⟩ := List.mem_iff_getElem.1 h1
    obtain ⟨a1, a2⟩ := hasK_iff.1 hx
    obtain ⟨b1, b2⟩ := hasK_iff.1 h2
    rcases Nat.lt_trichotomy i j with hij | hij | hij
    · have := List.pairwise_iff_getElem.1 hk i j hi hj hij
      rw [hasK_iff.2 ⟨a1.trans b1.symm, a2.trans b2.symm⟩] at this; cases this
    · subst hij; rfl
    · have := List.pairwise_iff_getElem.1 hk j i hj hi hij
      rw [hasK_iff.2 ⟨b1.trans a1.symm, b2.trans a2.symm⟩] at this; cases this

theorem own_some_mem {held : List L} {x : L} {m : Int} (h : ownM held x = some m) : ∃ y ∈ held, hasK x.t x.th y = true ∧ y.m = m := by
  unfold ownM at h
  cases hf : held.find? (hasK x.t x.th) with
  | none => rw [hf] at h; cases h
  | some y => rw [hf] at h; exact ⟨y, List.mem_of_find?_eq_some hf, List.find?_some hf, Option.some.inj h⟩

theorem free_have {held : List L} {x q : L} (hk : held.Pairwise (fun a b => hasK b.t b.th a = false)) (hs : ∀ h ∈ held, modeB h.m = true) (hx : modeB x.m = true) (hq : modeB q.m = true) (hj : ∀ m, ownM held x = some m → joinsF m x.m = x.m)
    (h : freeB (haveL held x) q = true) : freeB held q = true := by
  rw [freeB_iff] at h ⊢
  intro y hy
  cases hky : hasK x.t x.th y with
  | false => exact h y (have_old hy hky)
  | true =>
    obtain ⟨z, hz, hl⟩ := have_new (held := held) (x := x)
    have h1 := h z hz
    rw [hl.clash2] at h1
    obtain ⟨a1, a2⟩ := hasK_iff.1 hky
    have hjm := hj _ (own_mem hk hy hky)
    unfold clash at h1 ⊢
    rw [a1, a2]
    cases e : fitsF x.m q.m with
    | true => rw [← hjm] at e; rw [(fits_anti (hs y hy) hx hq e).1]; simp
    | false => rw [e] at h1; rw [Bool.and_eq_false_iff] at h1 ⊢; rcases h1 with h1 | h1; exact .inl h1; right; simp at h1 ⊢; simp [h1]

theorem first_have {held before : List L} {x q : L} (hk : held.Pairwise (fun a b => hasK b.t b.th a = false)) (hs : ∀ h ∈ held, modeB h.m = true) (hx : modeB x.m = true) (hq : modeB q.m = true) (hj : ∀ m, ownM held x = some m → joinsF m x.m = x.m) (hne : q.t ≠ x.t)
    (h : firstQ held before q = false) : firstQ (haveL held x) before q = false := by
  cases e : firstQ (haveL held x) before q with
  | false => rfl
  | true =>
    unfold firstQ at e h
    rw [Bool.and_eq_true] at e
    rw [free_have hk hs hx hq hj e.1, Bool.true_and] at h
    have e2 := e.2
    have : decide (0 ≤ findI (haveL held x) q.t q.th) = decide (0 ≤ findI held q.t q.th) := by rw [decide_eq_decide, find_own, find_own, own_have hne]
    rw [this, h] at e2
    exact e2.symm

theorem WG.mode {held queue : List L} (g : WG held queue) : ∀ h ∈ held, modeB h.m = true := fun h hh => (shape_iff.1 (g.shape h hh)).2.2
theorem WG.modeQ {held queue : List L} (g : WG held queue) : ∀ h ∈ queue, modeB h.m = true := fun h hh => (shape_iff.1 (g.qshape h hh)).2.2

/-- Somebody has what they may have now. -/
theorem WG.have_ {held queue queue' : List L} {x : L} (g : WG held queue) (hsub : queue'.Sublist queue) (hx : shapeF x = 0) (hf : freeB held x = true) (hlen : (haveL held x).length + queue'.length ≤ 200) (hne : ∀ q ∈ queue', q.t ≠ x.t) : WG (haveL held x) queue' where
  few := hlen
  shape := have_shape g.shape hx
  keys := have_keys g.keys
  free := have_free g.keys g.mode (shape_iff.1 hx).2.2 g.free hf
  qshape := fun q hq => g.qshape q (hsub.subset hq)
  qkeys := g.qkeys.sublist hsub
  wrong := fun q hq => by
    have := g.wrong q (hsub.subset hq)
    unfold wrongQ at this ⊢
    rw [own_have (hne q hq)]; exact this

/-! ### Ask -/

theorem good_ask {held queue : List L} {x : L} (g : Good held queue) (hx : shapeF x = 0) (ht : queue.any (fun y => y.t == x.t) = false) : Good (askG held queue x).1 (askG held queue x).2.1 := by
  have hne : ∀ q ∈ queue, q.t ≠ x.t := fun q hq => by have := List.any_eq_false.1 ht q hq; simpa using this
  -- the wish with its join
  have key : ∀ x' : L, x'.t = x.t → x'.th = x.th → shapeF x' = 0 → (∀ m, ownM held x = some m → joinsF m x'.m = x'.m ∧ ¬ m = x'.m) →
      Good (if firstQ held queue x' = true then (if (haveL held x').length + queue.length > 200 then ([], [], false, (10 : Int)) else (haveL held x', queue, true, 0)) else if held.length + (queue.length + 1) > 200 then ([], [], false, 10) else (held, queue ++ [x'], false, 0)).1
        (if firstQ held queue x' = true then (if (haveL held x').length + queue.length > 200 then ([], [], false, (10 : Int)) else (haveL held x', queue, true, 0)) else if held.length + (queue.length + 1) > 200 then ([], [], false, 10) else (held, queue ++ [x'], false, 0)).2.1 := by
    intro x' e1 e2 hs hj
    have hown : ownM held x' = ownM held x := by unfold ownM; rw [e1, e2]
    have hne' : ∀ q ∈ queue, q.t ≠ x'.t := fun q hq => by rw [e1]; exact hne q hq
    split
    · rename_i hf
      split
      · exact good_nil
      · rename_i hl
        have hfree : freeB held x' = true := by unfold firstQ at hf; rw [Bool.and_eq_true] at hf; exact hf.1
        refine (g.wg.have_ (List.Sublist.refl _) hs hfree (by omega) hne').good fun i hi => ?_
        refine first_have g.wg.keys g.wg.mode (shape_iff.1 hs).2.2 (g.wg.modeQ _ (List.getElem_mem hi)) (fun m hm => (hj m (hown ▸ hm)).1) (hne' _ (List.getElem_mem hi)) (badQ_iff.1 (g.queueOk i hi)).2.2.2
    · rename_i hf
      split
      · exact good_nil
      · rename_i hl
        refine WG.good (⟨by simp only [List.length_append, List.length_singleton]; omega, g.shape, g.wg.keys, g.wg.free, fun q hq => ?_, ?_, fun q hq => ?_⟩ : WG held (queue ++ [x'])) fun i hi => ?_
        · rcases List.mem_append.1 hq with hq | hq
          · exact g.wg.qshape q hq
          · simp only [List.mem_singleton] at hq; subst hq; exact hs
        · show (queue ++ [x']).Pairwise _
          rw [List.pairwise_append]
          refine ⟨g.wg.qkeys, List.pairwise_singleton _ _, fun a ha b hb => ?_⟩
          simp only [List.mem_singleton] at hb; subst hb
          simpa using hne' a ha
        · rcases List.mem_append.1 hq with hq | hq
          · exact g.wg.wrong q hq
          · simp only [List.mem_singleton] at hq; subst hq
            unfold wrongQ
            cases hm : ownM held q with
            | none => rfl
            | some m =>
              obtain ⟨h1, h2⟩ := hj m (hown ▸ hm)
              simp [h1, h2]
        · simp only [List.length_append, List.length_singleton] at hi
          rcases Nat.lt_or_ge i queue.length with h | h
          · rw [List.take_append_of_le_length (by omega), List.getElem_append_left h]
            exact (badQ_iff.1 (g.queueOk i h)).2.2.2
          · have : i = queue.length := by omega
            subst this
            simpa using hf
  unfold askG
  cases hm : ownM held x with
  | none =>
    simp only []
    rw [if_neg (by simp)]
    exact key x rfl rfl hx (fun m h => by rw [hm] at h; cases h)
  | some m =>
    simp only [Option.some.injEq]
    obtain ⟨y, hy, _, hym⟩ := own_some_mem hm
    have hmm : modeB m = true := hym ▸ g.wg.mode y hy
    have hxm := (shape_iff.1 hx).2.2
    by_cases e : m = joinsF m x.m
    · rw [if_pos e]; exact g
    · rw [if_neg e]
      refine key { x with m := joinsF m x.m } rfl rfl (shape_iff.2 ⟨(shape_iff.1 hx).1, (shape_iff.1 hx).2.1, join_mode hmm hxm⟩) fun m' h => ?_
      rw [hm] at h
      have := Option.some.inj h
      subst this
      exact ⟨join_idem hmm hxm, e⟩

/-! ### Leave -/

theorem find_filter {p f : L → Bool} {l : List L} (h : ∀ a, p a = true → f a = true) : (l.filter f).find? p = l.find? p := by
  induction l with
  | nil => rfl
  | cons a l ih =>
    rw [List.filter_cons]
    cases hf : f a with
    | true => simp [List.find?_cons, ih]
    | false =>
      have : p a = false := by
        cases hp : p a with
        | false => rfl
        | true => rw [h a hp] at hf; cases hf
      simp [List.find?_cons, this, ih]

theorem wg_leave {held queue : List L} {t : Int} (g : WG held queue) : WG (held.filter (·.t != t)) (queue.filter (·.t != t)) where
  few := by have := List.length_filter_le (fun x : L => x.t != t) held; have := List.length_filter_le (fun x : L => x.t != t) queue; have := g.few; omega
  shape := fun h hh => g.shape h (List.mem_filter.1 hh).1
  keys := g.keys.sublist List.filter_sublist
  free := fun h hh => freeB_iff.2 fun z hz => freeB_iff.1 (g.free h (List.mem_filter.1 hh).1) z (List.mem_filter.1 hz).1
  qshape := fun h hh => g.qshape h (List.mem_filter.1 hh).1
  qkeys := g.qkeys.sublist List.filter_sublist
  wrong := fun q hq => by
    obtain ⟨h1, h2⟩ := List.mem_filter.1 hq
    have := g.wrong q h1
    have e : ownM (held.filter (·.t != t)) q = ownM held q := by
      unfold ownM
      rw [find_filter]
      intro a hk
      rw [(hasK_iff.1 hk).1]; exact h2
    unfold wrongQ at this ⊢
    rw [e]; exact this

theorem good_wake : ∀ (n : Nat) (held queue : List L) (i : Nat) (ws : List Int), queue.length * 1000 + (queue.length - i) = n → WG held queue → (∀ k (hk : k < queue.length), k < i → firstQ held (queue.take k) queue[k] = false) → i ≤ queue.length →
    Good (wake held queue i ws).1 (wake held queue i ws).2.1 := by
  intro n
  induction n using Nat.strongRecOn with
  | _ n ih =>
    intro held queue i ws hn g hf hi
    by_cases h : i < queue.length
    · rw [wake, dif_pos h]
      have hlen := g.few
      cases hq : firstQ held (queue.take i) queue[i] with
      | true =>
        rw [if_pos rfl]
        have hfree : freeB held queue[i] = true := by unfold firstQ at hq; rw [Bool.and_eq_true] at hq; exact hq.1
        have hle : (haveL held queue[i]).length ≤ held.length + 1 := by unfold haveL; split <;> simp
        refine ih ((queue.eraseIdx i).length * 1000 + ((queue.eraseIdx i).length - 0)) (by rw [List.length_eraseIdx_of_lt h]; omega) _ _ 0 _ rfl ?_ (fun k _ hk => by omega) (Nat.zero_le _)
        refine g.have_ (List.eraseIdx_sublist _ _) (g.qshape _ (List.getElem_mem h)) hfree (by rw [List.length_eraseIdx_of_lt h]; omega) fun q hq' => ?_
        obtain ⟨j, hj, rfl⟩ := List.mem_iff_getElem.1 hq'
        rw [List.getElem_eraseIdx]
        rw [List.length_eraseIdx_of_lt h] at hj
        split
        · rename_i hji
          have := List.pairwise_iff_getElem.1 g.qkeys j i (by omega) h hji
          simpa using this
        · rename_i hji
          have := List.pairwise_iff_getElem.1 g.qkeys i (j + 1) h (by omega) (by omega)
          have h2 : queue[i].t ≠ queue[j + 1].t := by simpa using this
          exact fun e => h2 e.symm
      | false =>
        rw [if_neg Bool.false_ne_true]
        refine ih (queue.length * 1000 + (queue.length - (i + 1))) (by omega) _ _ (i + 1) _ rfl g (fun k hk hki => ?_) (by omega)
        rcases Nat.lt_or_ge k i with h1 | h1
        · exact hf k hk h1
        · have : k = i := by omega
          subst this; exact hq
    · rw [wake, dif_neg h]
      exact g.good fun k hk => hf k hk (by omega)

theorem good_leave {held queue : List L} {t : Int} (g : Good held queue) : Good (leaveG held queue t).1 (leaveG held queue t).2.1 :=
  good_wake _ _ _ 0 _ rfl (wg_leave g.wg) (fun k _ hk => by omega) (Nat.zero_le _)

end Go.Proofs.YtcogdagfcndbfaaDoor.Lk
