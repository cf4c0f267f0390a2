/-
  What the proof of TreeBad leans on, part 5 of 5: walks of the program's functions at the level of values, and plain facts of what they compute.
-/
import Derived.Test.YthnobhekodiciaaPTreeBad4
namespace Go.Proofs.Ythnobhekodiciaa.Tw
open Go.RowKit V Go.Proofs.Ythnobhekodiciaa.Tr Pk
set_option linter.unusedVariables false
set_option linter.unusedSimpArgs false

theorem AStep.lookC {P : Program} {C : Ctx} {Q : Exit → St → Prop} {x : St} {ops : Array Oper} {o : Oper} {S1 T : List Nat} {fuel i : Nat} {ld : Array Bool} {f t : Nat} {fo : Operand} {ars : Array Operand} {ts : Array TypeId} {args : List D} {post : D → List Blk → Prop} (hi : ops[i]? = some o) (hw : Wants ops x o true) (ho : o.op = .call { callee := .value fo, args := ars, argTypes := ts }) (hd : o.dst = some t)
  (hf : fo = .func f) (hcall : ∀ args w, (callFunc f args).run P w = .ok (.enter f args) w) (hc : VC P C.G f args [] post) (hr : ∀ r S', post r S' → flatD r = true ∧ ∀ B ∈ S', ∀ d ∈ B.cs, flatD d = true) (ha : Looks x ars.toList args)
  (K : ∀ r S', post r S' → AD P C ops S1 T fuel (ld.setIfInBounds i true) ⟨x.n, (t, r) :: x.env, S' ++ x.S⟩ Q) : AStep P C ops S1 T fuel ld x Q i := AStep.eff0 hi hw (eff_lookC ho hd hf hcall hc hr ha) fun y ⟨r, S', hp, hy⟩ => hy ▸ K r S' hp
theorem AD.tailS {P : Program} {C : Ctx} {Q : Exit → St → Prop} {ops : Array Oper} {S1 T : List Nat} {fuel n : Nat} {e : List (Nat × D)} {ld : Array Bool} {Sa R : List Blk} (k : AD P C ops S1 T fuel ld ⟨n, e, R⟩ Q) : AD P C ops S1 T fuel ld ⟨n, e, Sa ++ R⟩ Q :=
 AD.wkSub (Wk.drop _ _ _ _ (List.sublist_append_right _ _)) (fun b hb => (List.Sublist.map Blk.b (List.sublist_append_right Sa R)).subset hb) k
theorem views_T {Sx : List Blk} {L : List PgO} {ad : Option Addr} {cap : Nat} {t : TreeL} (ho : OwnP L ad cap Sx) (h : ∀ o ∈ L, okO o) (hL : L.map PgO.p = t.pages) :
  Views (Sx ++ L.flatMap bO) [.v (.slice ad L.length cap), .v (.int .i64 t.root)] [.list 5 ((t).pages.flatMap cP) (t).pages.length, .v (.int .i64 (t).root)] := by
 refine ⟨?_, view_same, trivial⟩
 have := view_ownV (S := Sx ++ L.flatMap bO) ho (views_O h fun B hB => List.mem_append_right _ hB) (fm_len cP_len _ |>.trans (by simp)) (fun B hB => List.mem_append_left _ hB)
 rw [hL] at this
 rw [show t.pages.length = L.length by rw [← hL, List.length_map]]
 exact this
theorem view_Tt {S Sx : List Blk} {L : List PgO} {ad : Option Addr} {cap : Nat} {t : TreeL} (ho : OwnP L ad cap Sx) (h : ∀ o ∈ L, okO o) (hL : L.map PgO.p = t.pages) (hs : ∀ B ∈ Sx ++ L.flatMap bO, B ∈ S) : View S (.agg [.v (.slice ad L.length cap), .v (.int .i64 t.root)]) (.agg (cT t)) := by
 have := view_T (root := t.root) ho h hs
 rw [hL] at this; exact this
/-- What a call that failed gives back. -/
def FailE (e : Int) (r : D) (S : List Blk) : Prop := ∃ ad cap, r = .tup [.agg [.v (.slice ad 0 cap), .v (.int .i64 0)], .v (.int .i64 e)] ∧ OwnL 44 5 [] 0 ad cap S
theorem RetE.fail {e : Int} {r : D} {S : List Blk} (h : RetE (noT, e) r S) : FailE e r S := by
 obtain ⟨_, rfl, L, ad, cap, Sx, rfl, hox, hok, hL, rfl⟩ := h
 have : L = [] := List.map_eq_nil_iff.1 hL
 subst this
 exact ⟨ad, cap, rfl, by rw [List.flatMap_nil, List.append_nil]; exact hox⟩
theorem FailE.flat {e : Int} {r : D} {S : List Blk} (h : FailE e r S) : flatD r = true ∧ ∀ B ∈ S, ∀ d ∈ B.cs, flatD d = true := by
 obtain ⟨ad, cap, rfl, ho⟩ := h
 refine ⟨rfl, fun B hB d hd => ?_⟩
 rcases ho with ⟨_, _, _, _, rfl⟩ | ⟨b, _, _, _, rfl⟩
 ·cases hB
 ·rw [List.mem_singleton] at hB; subst hB; cases hd
theorem VC.post {P : Program} {G : List (Nat × List Value)} {f : FuncId} {args : List D} {S : List Blk} {p q : D → List Blk → Prop} (h : VC P G f args S p) (k : ∀ r S', p r S' → q r S') : VC P G f args S q := fun X w vs hp =>
 (h X w vs hp).mono fun e w' ⟨v, r, S', h1, h2, h3⟩ => ⟨v, r, S', h1, k r S' h2, h3⟩
/-- Tree's answer, of one's own. -/
def RetTt (t : TreeL) (r : D) (S : List Blk) : Prop := ∃ r', r = .tup [r', .v (.bool true)] ∧ RetT t r' S
variable {G : List (Nat × List Value)}
theorem delete_cy {t : TreeL} {n : Nat} {k : K} (g : GoodT t n) (hk : 1 ≤ k.length ∧ k.length ≤ 100) (h : thereB t k (hOf t) = true) : VC Try.prog G 20 [.agg [.list 5 ((t).pages.flatMap cP) (t).pages.length, .v (.int .i64 (t).root)], .list 1 (k.flatMap cB) k.length] [] (RetE (delT t (hOf t) k, 0)) := by
 have := delete_vc (G := G) t (hOf t) k (good_hb g) (fun _ => g.val); rwa [del_yes g hk h] at this
theorem delete_cn {t : TreeL} {n : Nat} {k : K} (g : GoodT t n) (hk : 1 ≤ k.length ∧ k.length ≤ 100) (h : thereB t k (hOf t) = false) : VC Try.prog G 20 [.agg [.list 5 ((t).pages.flatMap cP) (t).pages.length, .v (.int .i64 (t).root)], .list 1 (k.flatMap cB) k.length] [] (FailE 8) := by
 have := delete_vc (G := G) t (hOf t) k (good_hb g) (fun _ => g.val); rw [del_no g hk h] at this; exact VC.post this fun _ _ h => h.fail
theorem insert_cy {t : TreeL} {n : Nat} {k : K} {row : Int} (g : GoodT t n) (hk : 1 ≤ k.length ∧ k.length ≤ 100) (hr : 0 ≤ row) (h : thereB t k (hOf t) = true) : VC Try.prog G 14 [.agg [.list 5 ((t).pages.flatMap cP) (t).pages.length, .v (.int .i64 (t).root)], .list 1 (k.flatMap cB) k.length, .v (.int .i64 row)] [] (FailE 9) := by
 have := insert_vc (G := G) t (hOf t) k row (good_hb g) (fun _ => g.val); rw [ins_yes g hk hr h] at this; exact VC.post this fun _ _ h => h.fail
theorem insert_cn {t : TreeL} {n : Nat} {k : K} {row : Int} (g : GoodT t n) (hn : n ≤ 300) (hk : 1 ≤ k.length ∧ k.length ≤ 100) (hr : 0 ≤ row) (h : thereB t k (hOf t) = false) : VC Try.prog G 14 [.agg [.list 5 ((t).pages.flatMap cP) (t).pages.length, .v (.int .i64 (t).root)], .list 1 (k.flatMap cB) k.length, .v (.int .i64 row)] [] (RetE (insT t (hOf t) k row, 0)) := by
 have := insert_vc (G := G) t (hOf t) k row (good_hb g) (fun _ => g.val); rwa [ins_no g hn hk hr h] at this
def newO : PgO := (⟨⟨true, [], [], [], -1⟩, none, 0, [], none, 0, []⟩ : PgO)

set_option maxHeartbeats 4000000 in
set_option maxRecDepth 100000 in
theorem tree_vc (l : List Int) (hl : l.length ≤ maxLen) (hw : WfI l) : VC Try.prog G 17 [.list 1 (l.flatMap cI) l.length] [] (RetTt (treeL l)) := by
 refine VC.body Try.func17 rfl Try.ntmps17 (Nat.le_of_ble_eq_true rfl) fun X0 w0 S00 => ?_
 have hmx : maxLen = 9223372036854775807 := rfl
 refine sr_ ?_
 refine OD.alloc (ds := [_, _]) (wants_plain rfl) rfl rfl Try.zeroValue26 rfl (fun b2 => ?_)
 refine os_ mv_ ?_
 refine OD.wk (Wk.as_ (n := 66) (l' := [(0, _), (2, _)]) (S' := [⟨b2, 26, 2, [_, _]⟩]) rfl rfl ⟨lk, lk, trivial⟩) ?_
 refine OD.nil ?_
 refine sr_ ?_
 refine OD.call (wants_plain rfl) rfl rfl rfl Try.call13 (new_vc trivial) trivial (perm_none _) ?_
 rintro _ _ ⟨bx, rfl, rfl⟩
 refine OD.cover0 (cs' := gO newO) rfl ⟨view_same, view_same, view_same, view_nil, view_same, trivial⟩ ?_
 refine OD.perm (S' := ⟨b2, 26, 2, [.v (.slice none 0 0), .v (.int .i64 0)]⟩ :: ([⟨bx, 44, 1 * 5, List.flatMap gO [newO]⟩] ++ List.flatMap bO [newO])) (List.Perm.swap _ _ _) ?_
 refine OD.alloc (ds := [_, _]) (wants_plain rfl) rfl rfl Try.zeroValue26 rfl (fun b4 => ?_)
 refine OD.store (k := 0) (cs' := [_, _]) (wants_plain rfl) rfl rfl ot rfl rfl ot rfl rfl Try.sizeOf26 rfl rfl rfl ?_
 refine OD.wk (Wk.as_ (n := 66) (l' := [(0, _), (2, _), (4, _)]) (S' := (⟨b4, 26, 2, [_, _]⟩ :: ⟨b2, 26, 2, [_, _]⟩ :: ([⟨bx, 44, 1 * 5, List.flatMap gO [newO]⟩] ++ List.flatMap bO [newO]))) rfl rfl ⟨lk, lk, lk, trivial⟩) ?_
 refine OD.nil ?_
 refine CD.seq ?_
 refine sr_ ?_
 refine os_ mv_ ?_
 refine nm_ [0, 2, 4, 5] ?_
 refine CD.block ?_
 refine CD.wk (Wk.asS (n := 66) (l' := [(0, .list 1 (l.flatMap cI) l.length), (2, .v (.pointer (some ⟨b2, 0, none⟩))), (4, .v (.pointer (some ⟨b4, 0, none⟩))), (5, .v (.int .i64 ((0) : Nat)))]) (S' := (⟨b4, 26, 2, [.v (.slice ((some ⟨bx, 0, none⟩)) (List.length ([newO])) (1)), .v (.int .i64 (TreeL.root newT))]⟩ :: ⟨b2, 26, 2, [.v (.slice none 0 0), .v (.int .i64 0)]⟩ :: (([⟨bx, 44, 1 * 5, List.flatMap gO [newO]⟩]) ++ List.flatMap bO ([newO])))) rfl (by repeat (first | exact List.Sublist.refl _ | apply List.Sublist.cons_cons | apply List.Sublist.cons)) ⟨lq_, lq_, lq_, lq_, trivial⟩) (CD.loop (fun (gh__ : Nat × TreeL × List PgO × Option Addr × Nat × List Blk) y__ => match gh__ with | (i, T, L, ad, cap, Sx) => (i ≤ l.length) ∧ (i ≤ 70) ∧ (T = treeN l i) ∧ (OwnP L ad cap Sx) ∧ (∀ o ∈ L, okO o) ∧ (List.map PgO.p L = TreeL.pages T) ∧ y__ = (⟨66, [(0, .list 1 (l.flatMap cI) l.length), (2, .v (.pointer (some ⟨b2, 0, none⟩))), (4, .v (.pointer (some ⟨b4, 0, none⟩))), (5, .v (.int .i64 (i : Nat)))], (⟨b4, 26, 2, [.v (.slice ad (List.length L) cap), .v (.int .i64 (TreeL.root T))]⟩ :: ⟨b2, 26, 2, [.v (.slice none 0 0), .v (.int .i64 0)]⟩ :: (Sx ++ List.flatMap bO L))⟩ : St)) (fun (gh__ : Nat × TreeL × List PgO × Option Addr × Nat × List Blk) => match gh__ with | (i, T, L, ad, cap, Sx) => 70 - i) (0, newT, [newO], (some ⟨bx, 0, none⟩), 1, [⟨bx, 44, 1 * 5, List.flatMap gO [newO]⟩]) ⟨(Nat.zero_le _), (by omega), rfl, (ownL_row (Nat.le_refl _) (show 1 ≤ maxLen by decide)), (fun o ho => by rw [List.mem_singleton] at ho; subst ho; exact ⟨ownL_nil, ownL_nil⟩), rfl, rfl⟩ ?_)
 rintro ⟨i, T, L, ad, cap, Sx⟩ _ ⟨hi1, hi2, hT, hox, hok, hL, rfl⟩
 refine CD.seq ?_
 refine sr_ ?_
 refine os_ mv_ ?_
 refine os_ mv_ ?_
 refine os_ ln_ ?_
 refine os_ bn_ ?_
 refine os_ mv_ ?_
 refine OD.split (t := 15) lk (fun hg15 => ?_) (fun hg15 => ?_)
 ·have hg15' := hg15; (try simp only [V.cnd, ne_eq] at hg15')
  refine os_ mv_ ?_
  refine os_ bn_ ?_
  refine os_ pkT_ ?_
  refine nm_ [0, 2, 4, 5, 18] ?_
  refine CD.cond ot (fun hc0 => ?_) (fun hc0 => ?_)
  ·have hc0' := hc0
   (try simp only [V.cnd, ne_eq] at hc0')
   have hil : i < l.length := by simp_all
   have hi70 : i < 70 := by simp_all; omega
   have hg : GoodT (treeN l i) i := good_treeN l (by omega)
   rw [← hT] at hg
   have g : GoodT T i := hg
   obtain ⟨x1, x2⟩ := hw _ (List.getElem_mem hil)
   refine CD.skip ?_
   refine CD.seq ?_
   refine CD.block ?_
   refine CD.seq ?_
   refine sr_ ?_
   refine os_ mv_ ?_
   refine os_ mv_ ?_
   refine os_ (ix_ 1 (h := by first | exact .l (j := i) rfl hil | exact .r (j := i) rfl hil)) ?_
   refine os_ ld_ ?_
   refine os_ bn_ ?_
   refine nm_ [0, 2, 4, 5, 25] ?_
   refine CD.cond ot (fun hc1 => ?_) (fun hc1 => ?_)
   ·have hc1' := hc1
    (try simp only [V.cnd, ne_eq] at hc1')
    have hneg : l[i] < 0 := by simpa using hc1
    refine CD.seq ?_
    rcases hth : thereB T (keyN l[i]) (hOf T) with _ | _
    ·skip
     have hdv := delete_cn (G := G) g (keyN_ok l[i]) hth
     refine CD.draw (bks _) (by kernel_rfl) (fun _ h => h) ?_
     refine a0_ 0 rfl (lab_ 0 [_, _]) ?_
     refine a0_ 1 rfl mv_ ?_
     refine a0_ 2 rfl mv_ ?_
     refine a0_ 3 rfl (ix_ 1 (h := by first | exact .l (j := i) rfl hil | exact .r (j := i) rfl hil)) ?_
     refine a0_ 4 rfl ld_ ?_
     refine AD0.later rfl ?_
     refine AD.two (i := 5) (j := 10) (by kernel_rfl) ?_ ?_
     ·skip
      refine AStep.callP rfl (wants_plain rfl) rfl rfl rfl Try.call15 (key_vpN _ x1 x2) ⟨ot, trivial⟩ ?_
      refine AD.two (i := 6) (j := 10) (by kernel_rfl) ?_ ?_
      ·skip
       refine AStep.lookC rfl (wants_plain rfl) rfl rfl rfl Try.call20 hdv (fun r S h => FailE.flat h) ⟨⟨_, ot, view_Tt hox hok hL (fun B hB => by first | exact List.mem_cons_of_mem _ (List.mem_cons_of_mem _ hB) | exact List.mem_cons_of_mem _ (List.mem_cons_of_mem _ (List.mem_cons_of_mem _ hB)))⟩, ⟨_, ot, view_same⟩, trivial⟩ ?_
       rintro _ Sf ⟨ad0, cap0, rfl, _⟩
       refine AD.tailS ?_
       refine a1_ 7 rfl mv_ ?_
       refine a1_ 8 rfl ex_ ?_
       refine a1_ 9 rfl ex_ ?_
       refine AD.one (i := 10) (by kernel_rfl) ?_
       refine AStep.alloc (ds := [_, _]) rfl (wants_plain rfl) rfl rfl Try.zeroValue26 rfl (fun b6 => ?_)
       refine AD.one (i := 11) (by kernel_rfl) ?_
       refine AStep.store (k := 0) (cs' := [_, _]) rfl (wants_plain rfl) rfl rfl ot rfl rfl ot rfl rfl Try.sizeOf26 rfl rfl rfl (by intro b hb; simp [bks, St.put] at hb ⊢; try first | exact hb | simp [hb] | (rcases hb with hb | hb <;> simp [hb]) | (rcases hb with hb | hb | hb <;> simp [hb])) ?_
       refine a1_ 12 rfl mv_ ?_
       refine AD.wk (y := ⟨66, [(0, _), (2, _), (4, _), (5, _), (6, _), (7, _)], (⟨b6, 26, 2, [_, _]⟩ :: ⟨b4, 26, 2, [_, _]⟩ :: ⟨b2, 26, 2, [_, _]⟩ :: (Sx ++ List.flatMap bO L))⟩) (Wk.as_ rfl rfl ⟨lk, lk, lk, lk, lk, lk, trivial⟩) rfl ?_
       refine AD.done (by kernel_rfl) ?_
       refine CD.seq ?_
       refine sr_ ?_
       refine os_ mv_ ?_
       refine os_ bn_ ?_
       refine nm_ [0, 2, 4, 5, 6, 37] ?_
       refine CD.cond ot (fun hc2 => ?_) (fun hc2 => ?_)
       ·exact absurd hc2 (by simp at hc2)
       ·have hc2' := hc2
        (try simp only [V.cnd, ne_eq] at hc2')
        refine CD.skip ?_
        refine CD.exit ?_
        refine CD.region ?_
        refine os_ mv_ ?_
        refine os_ bn_ ?_
        refine os_ mv_ ?_
        refine nm_ [0, 2, 4, 5] ?_
        refine ⟨((i + 1), T, L, ad, cap, Sx), ⟨66, [(0, .list 1 (l.flatMap cI) l.length), (2, .v (.pointer (some ⟨b2, 0, none⟩))), (4, .v (.pointer (some ⟨b4, 0, none⟩))), (5, .v (.int .i64 (((i + 1)) : Nat)))], (⟨b4, 26, 2, [.v (.slice ad (List.length L) cap), .v (.int .i64 (TreeL.root T))]⟩ :: ⟨b2, 26, 2, [.v (.slice none 0 0), .v (.int .i64 0)]⟩ :: (Sx ++ List.flatMap bO L))⟩, ?_, Wk.asS (n := 66) rfl (by repeat (first | exact List.Sublist.refl _ | apply List.Sublist.cons_cons | apply List.Sublist.cons)) ⟨lq_, lq_, lq_, lq_, trivial⟩, (by omega), (by omega), (by rw [treeN_succ hil, ← hT]; unfold stepT; rw [if_pos hneg, if_neg (by rw [hth]; decide)]), hox, hok, hL, rfl⟩
        first | omega | (simp only []; omega)
      ·skip
       refine AStep.alloc (ds := [_, _]) rfl (wants_plain rfl) rfl rfl Try.zeroValue26 rfl (fun b6 => ?_)
       refine AD.one (i := 6) (by kernel_rfl) ?_
       refine AStep.lookC rfl (wants_plain rfl) rfl rfl rfl Try.call20 hdv (fun r S h => FailE.flat h) ⟨⟨_, ot, view_Tt hox hok hL (fun B hB => by first | exact List.mem_cons_of_mem _ (List.mem_cons_of_mem _ hB) | exact List.mem_cons_of_mem _ (List.mem_cons_of_mem _ (List.mem_cons_of_mem _ hB)))⟩, ⟨_, ot, view_same⟩, trivial⟩ ?_
       rintro _ Sf ⟨ad0, cap0, rfl, _⟩
       refine AD.tailS ?_
       refine a1_ 7 rfl mv_ ?_
       refine a1_ 8 rfl ex_ ?_
       refine a1_ 9 rfl ex_ ?_
       refine AD.one (i := 11) (by kernel_rfl) ?_
       refine AStep.store (k := 0) (cs' := [_, _]) rfl (wants_plain rfl) rfl rfl ot rfl rfl ot rfl rfl Try.sizeOf26 rfl rfl rfl (by intro b hb; simp [bks, St.put] at hb ⊢; try first | exact hb | simp [hb] | (rcases hb with hb | hb <;> simp [hb]) | (rcases hb with hb | hb | hb <;> simp [hb])) ?_
       refine a1_ 12 rfl mv_ ?_
       refine AD.wk (y := ⟨66, [(0, _), (2, _), (4, _), (5, _), (6, _), (7, _)], (⟨b6, 26, 2, [_, _]⟩ :: ⟨b4, 26, 2, [_, _]⟩ :: ⟨b2, 26, 2, [_, _]⟩ :: (Sx ++ List.flatMap bO L))⟩) (Wk.as_ rfl rfl ⟨lk, lk, lk, lk, lk, lk, trivial⟩) rfl ?_
       refine AD.done (by kernel_rfl) ?_
       refine CD.seq ?_
       refine sr_ ?_
       refine os_ mv_ ?_
       refine os_ bn_ ?_
       refine nm_ [0, 2, 4, 5, 6, 37] ?_
       refine CD.cond ot (fun hc2 => ?_) (fun hc2 => ?_)
       ·exact absurd hc2 (by simp at hc2)
       ·have hc2' := hc2
        (try simp only [V.cnd, ne_eq] at hc2')
        refine CD.skip ?_
        refine CD.exit ?_
        refine CD.region ?_
        refine os_ mv_ ?_
        refine os_ bn_ ?_
        refine os_ mv_ ?_
        refine nm_ [0, 2, 4, 5] ?_
        refine ⟨((i + 1), T, L, ad, cap, Sx), ⟨66, [(0, .list 1 (l.flatMap cI) l.length), (2, .v (.pointer (some ⟨b2, 0, none⟩))), (4, .v (.pointer (some ⟨b4, 0, none⟩))), (5, .v (.int .i64 (((i + 1)) : Nat)))], (⟨b4, 26, 2, [.v (.slice ad (List.length L) cap), .v (.int .i64 (TreeL.root T))]⟩ :: ⟨b2, 26, 2, [.v (.slice none 0 0), .v (.int .i64 0)]⟩ :: (Sx ++ List.flatMap bO L))⟩, ?_, Wk.asS (n := 66) rfl (by repeat (first | exact List.Sublist.refl _ | apply List.Sublist.cons_cons | apply List.Sublist.cons)) ⟨lq_, lq_, lq_, lq_, trivial⟩, (by omega), (by omega), (by rw [treeN_succ hil, ← hT]; unfold stepT; rw [if_pos hneg, if_neg (by rw [hth]; decide)]), hox, hok, hL, rfl⟩
        first | omega | (simp only []; omega)
     ·skip
      refine AStep.alloc (ds := [_, _]) rfl (wants_plain rfl) rfl rfl Try.zeroValue26 rfl (fun b6 => ?_)
      refine AD.one (i := 5) (by kernel_rfl) ?_
      refine AStep.callP rfl (wants_plain rfl) rfl rfl rfl Try.call15 (key_vpN _ x1 x2) ⟨ot, trivial⟩ ?_
      refine AD.one (i := 6) (by kernel_rfl) ?_
      refine AStep.lookC rfl (wants_plain rfl) rfl rfl rfl Try.call20 hdv (fun r S h => FailE.flat h) ⟨⟨_, ot, view_Tt hox hok hL (fun B hB => by first | exact List.mem_cons_of_mem _ (List.mem_cons_of_mem _ hB) | exact List.mem_cons_of_mem _ (List.mem_cons_of_mem _ (List.mem_cons_of_mem _ hB)))⟩, ⟨_, ot, view_same⟩, trivial⟩ ?_
      rintro _ Sf ⟨ad0, cap0, rfl, _⟩
      refine AD.tailS ?_
      refine a1_ 7 rfl mv_ ?_
      refine a1_ 8 rfl ex_ ?_
      refine a1_ 9 rfl ex_ ?_
      refine AD.one (i := 11) (by kernel_rfl) ?_
      refine AStep.store (k := 0) (cs' := [_, _]) rfl (wants_plain rfl) rfl rfl ot rfl rfl ot rfl rfl Try.sizeOf26 rfl rfl rfl (by intro b hb; simp [bks, St.put] at hb ⊢; try first | exact hb | simp [hb] | (rcases hb with hb | hb <;> simp [hb]) | (rcases hb with hb | hb | hb <;> simp [hb])) ?_
      refine a1_ 12 rfl mv_ ?_
      refine AD.wk (y := ⟨66, [(0, _), (2, _), (4, _), (5, _), (6, _), (7, _)], (⟨b6, 26, 2, [_, _]⟩ :: ⟨b4, 26, 2, [_, _]⟩ :: ⟨b2, 26, 2, [_, _]⟩ :: (Sx ++ List.flatMap bO L))⟩) (Wk.as_ rfl rfl ⟨lk, lk, lk, lk, lk, lk, trivial⟩) rfl ?_
      refine AD.done (by kernel_rfl) ?_
      refine CD.seq ?_
      refine sr_ ?_
      refine os_ mv_ ?_
      refine os_ bn_ ?_
      refine nm_ [0, 2, 4, 5, 6, 37] ?_
      refine CD.cond ot (fun hc2 => ?_) (fun hc2 => ?_)
      ·exact absurd hc2 (by simp at hc2)
      ·have hc2' := hc2
       (try simp only [V.cnd, ne_eq] at hc2')
       refine CD.skip ?_
       refine CD.exit ?_
       refine CD.region ?_
       refine os_ mv_ ?_
       refine os_ bn_ ?_
       refine os_ mv_ ?_
       refine nm_ [0, 2, 4, 5] ?_
       refine ⟨((i + 1), T, L, ad, cap, Sx), ⟨66, [(0, .list 1 (l.flatMap cI) l.length), (2, .v (.pointer (some ⟨b2, 0, none⟩))), (4, .v (.pointer (some ⟨b4, 0, none⟩))), (5, .v (.int .i64 (((i + 1)) : Nat)))], (⟨b4, 26, 2, [.v (.slice ad (List.length L) cap), .v (.int .i64 (TreeL.root T))]⟩ :: ⟨b2, 26, 2, [.v (.slice none 0 0), .v (.int .i64 0)]⟩ :: (Sx ++ List.flatMap bO L))⟩, ?_, Wk.asS (n := 66) rfl (by repeat (first | exact List.Sublist.refl _ | apply List.Sublist.cons_cons | apply List.Sublist.cons)) ⟨lq_, lq_, lq_, lq_, trivial⟩, (by omega), (by omega), (by rw [treeN_succ hil, ← hT]; unfold stepT; rw [if_pos hneg, if_neg (by rw [hth]; decide)]), hox, hok, hL, rfl⟩
       first | omega | (simp only []; omega)
    ·skip
     have hdv := delete_cy (G := G) g (keyN_ok l[i]) hth
     refine CD.wk (Wk.cover (A := ⟨b4, 26, 2, [.v (.slice ad (List.length L) cap), .v (.int .i64 (TreeL.root T))]⟩) (R := [⟨b2, 26, 2, [.v (.slice none 0 0), .v (.int .i64 0)]⟩]) (Sd := (Sx ++ List.flatMap bO L)) (cs' := [.list 5 ((T).pages.flatMap cP) (T).pages.length, .v (.int .i64 (T).root)]) (List.Perm.refl _) (views_T hox hok hL)) ?_
     refine CD.draw (bks _) (by kernel_rfl) (fun _ h => h) ?_
     refine a0_ 0 rfl (lab_ 0 [_, _]) ?_
     refine a0_ 1 rfl mv_ ?_
     refine a0_ 2 rfl mv_ ?_
     refine a0_ 3 rfl (ix_ 1 (h := by first | exact .l (j := i) rfl hil | exact .r (j := i) rfl hil)) ?_
     refine a0_ 4 rfl ld_ ?_
     refine AD0.later rfl ?_
     refine AD.two (i := 5) (j := 10) (by kernel_rfl) ?_ ?_
     ·skip
      refine AStep.callP rfl (wants_plain rfl) rfl rfl rfl Try.call15 (key_vpN _ x1 x2) ⟨ot, trivial⟩ ?_
      refine AD.two (i := 6) (j := 10) (by kernel_rfl) ?_ ?_
      ·skip
       refine AStep.call rfl (wants_plain rfl) rfl rfl rfl Try.call20 hdv ⟨ot, ot, trivial⟩ (perm_none _) (by intro b hb; simp [bks, St.put] at hb ⊢; try first | exact hb | simp [hb] | (rcases hb with hb | hb <;> simp [hb]) | (rcases hb with hb | hb | hb <;> simp [hb])) ?_
       rintro _ _ ⟨_, rfl, L2, ad2, cap2, Sx2, rfl, hox2, hok2, hL2, rfl⟩
       refine AD.perm (S' := _) (perm_q11 (A := [_, _])) ?_
       refine a1_ 7 rfl mv_ ?_
       refine a1_ 8 rfl ex_ ?_
       refine a1_ 9 rfl ex_ ?_
       refine AD.one (i := 10) (by kernel_rfl) ?_
       refine AStep.alloc (ds := [_, _]) rfl (wants_plain rfl) rfl rfl Try.zeroValue26 rfl (fun b6 => ?_)
       refine AD.one (i := 11) (by kernel_rfl) ?_
       refine AStep.store (k := 0) (cs' := [_, _]) rfl (wants_plain rfl) rfl rfl ot rfl rfl ot rfl rfl Try.sizeOf26 rfl rfl rfl (by intro b hb; simp [bks, St.put] at hb ⊢; try first | exact hb | simp [hb] | (rcases hb with hb | hb <;> simp [hb]) | (rcases hb with hb | hb | hb <;> simp [hb])) ?_
       refine a1_ 12 rfl mv_ ?_
       refine AD.wk (y := ⟨66, [(0, _), (2, _), (4, _), (5, _), (6, _), (7, _)], (⟨b6, 26, 2, [_, _]⟩ :: ⟨b4, 26, 2, [_, _]⟩ :: ⟨b2, 26, 2, [_, _]⟩ :: (Sx2 ++ List.flatMap bO L2))⟩) (Wk.as_ rfl rfl ⟨lk, lk, lk, lk, lk, lk, trivial⟩) rfl ?_
       refine AD.done (by kernel_rfl) ?_
       refine CD.seq ?_
       refine sr_ ?_
       refine os_ mv_ ?_
       refine os_ bn_ ?_
       refine nm_ [0, 2, 4, 5, 6, 37] ?_
       refine CD.cond ot (fun hc2 => ?_) (fun hc2 => ?_)
       ·have hc2' := hc2
        (try simp only [V.cnd, ne_eq] at hc2')
        refine CD.region ?_
        refine os_ (lab_ 0 [_, _]) ?_
        refine OD.store (k := 1) (cs' := [_, _]) (wants_plain rfl) rfl rfl ot rfl rfl ot rfl rfl Try.sizeOf26 rfl rfl rfl ?_
        refine OD.wk (Wk.as_ (n := 66) (l' := [(0, _), (2, _), (4, _), (5, _)]) (S' := (⟨b6, 26, 2, [_, _]⟩ :: ⟨b4, 26, 2, [_, _]⟩ :: ⟨b2, 26, 2, [_, _]⟩ :: (Sx2 ++ List.flatMap bO L2))) rfl rfl ⟨lk, lk, lk, lk, trivial⟩) ?_
        refine OD.nil ?_
        refine CD.exit ?_
        refine CD.region ?_
        refine os_ mv_ ?_
        refine os_ bn_ ?_
        refine os_ mv_ ?_
        refine nm_ [0, 2, 4, 5] ?_
        refine ⟨((i + 1), (delT T (hOf T) (keyN l[i])), L2, ad2, cap2, Sx2), ⟨66, [(0, .list 1 (l.flatMap cI) l.length), (2, .v (.pointer (some ⟨b2, 0, none⟩))), (4, .v (.pointer (some ⟨b4, 0, none⟩))), (5, .v (.int .i64 (((i + 1)) : Nat)))], (⟨b4, 26, 2, [.v (.slice ad2 (List.length L2) cap2), .v (.int .i64 (TreeL.root ((delT T (hOf T) (keyN l[i])))))]⟩ :: ⟨b2, 26, 2, [.v (.slice none 0 0), .v (.int .i64 0)]⟩ :: (Sx2 ++ List.flatMap bO L2))⟩, ?_, Wk.asS (n := 66) rfl (by repeat (first | exact List.Sublist.refl _ | apply List.Sublist.cons_cons | apply List.Sublist.cons)) ⟨lq_, lq_, lq_, lq_, trivial⟩, (by omega), (by omega), (by rw [treeN_succ hil, ← hT]; unfold stepT; rw [if_pos hneg, if_pos hth]), hox2, hok2, hL2, rfl⟩
        first | omega | (simp only []; omega)
       ·exact absurd hc2 (by simp at hc2)
      ·skip
       refine AStep.alloc (ds := [_, _]) rfl (wants_plain rfl) rfl rfl Try.zeroValue26 rfl (fun b6 => ?_)
       refine AD.one (i := 6) (by kernel_rfl) ?_
       refine AStep.call rfl (wants_plain rfl) rfl rfl rfl Try.call20 hdv ⟨ot, ot, trivial⟩ (perm_none _) (by intro b hb; simp [bks, St.put] at hb ⊢; try first | exact hb | simp [hb] | (rcases hb with hb | hb <;> simp [hb]) | (rcases hb with hb | hb | hb <;> simp [hb])) ?_
       rintro _ _ ⟨_, rfl, L2, ad2, cap2, Sx2, rfl, hox2, hok2, hL2, rfl⟩
       refine AD.perm (S' := _) (perm_q11 (A := [_, _, _])) ?_
       refine a1_ 7 rfl mv_ ?_
       refine a1_ 8 rfl ex_ ?_
       refine a1_ 9 rfl ex_ ?_
       refine AD.one (i := 11) (by kernel_rfl) ?_
       refine AStep.store (k := 0) (cs' := [_, _]) rfl (wants_plain rfl) rfl rfl ot rfl rfl ot rfl rfl Try.sizeOf26 rfl rfl rfl (by intro b hb; simp [bks, St.put] at hb ⊢; try first | exact hb | simp [hb] | (rcases hb with hb | hb <;> simp [hb]) | (rcases hb with hb | hb | hb <;> simp [hb])) ?_
       refine a1_ 12 rfl mv_ ?_
       refine AD.wk (y := ⟨66, [(0, _), (2, _), (4, _), (5, _), (6, _), (7, _)], (⟨b6, 26, 2, [_, _]⟩ :: ⟨b4, 26, 2, [_, _]⟩ :: ⟨b2, 26, 2, [_, _]⟩ :: (Sx2 ++ List.flatMap bO L2))⟩) (Wk.as_ rfl rfl ⟨lk, lk, lk, lk, lk, lk, trivial⟩) rfl ?_
       refine AD.done (by kernel_rfl) ?_
       refine CD.seq ?_
       refine sr_ ?_
       refine os_ mv_ ?_
       refine os_ bn_ ?_
       refine nm_ [0, 2, 4, 5, 6, 37] ?_
       refine CD.cond ot (fun hc2 => ?_) (fun hc2 => ?_)
       ·have hc2' := hc2
        (try simp only [V.cnd, ne_eq] at hc2')
        refine CD.region ?_
        refine os_ (lab_ 0 [_, _]) ?_
        refine OD.store (k := 1) (cs' := [_, _]) (wants_plain rfl) rfl rfl ot rfl rfl ot rfl rfl Try.sizeOf26 rfl rfl rfl ?_
        refine OD.wk (Wk.as_ (n := 66) (l' := [(0, _), (2, _), (4, _), (5, _)]) (S' := (⟨b6, 26, 2, [_, _]⟩ :: ⟨b4, 26, 2, [_, _]⟩ :: ⟨b2, 26, 2, [_, _]⟩ :: (Sx2 ++ List.flatMap bO L2))) rfl rfl ⟨lk, lk, lk, lk, trivial⟩) ?_
        refine OD.nil ?_
        refine CD.exit ?_
        refine CD.region ?_
        refine os_ mv_ ?_
        refine os_ bn_ ?_
        refine os_ mv_ ?_
        refine nm_ [0, 2, 4, 5] ?_
        refine ⟨((i + 1), (delT T (hOf T) (keyN l[i])), L2, ad2, cap2, Sx2), ⟨66, [(0, .list 1 (l.flatMap cI) l.length), (2, .v (.pointer (some ⟨b2, 0, none⟩))), (4, .v (.pointer (some ⟨b4, 0, none⟩))), (5, .v (.int .i64 (((i + 1)) : Nat)))], (⟨b4, 26, 2, [.v (.slice ad2 (List.length L2) cap2), .v (.int .i64 (TreeL.root ((delT T (hOf T) (keyN l[i])))))]⟩ :: ⟨b2, 26, 2, [.v (.slice none 0 0), .v (.int .i64 0)]⟩ :: (Sx2 ++ List.flatMap bO L2))⟩, ?_, Wk.asS (n := 66) rfl (by repeat (first | exact List.Sublist.refl _ | apply List.Sublist.cons_cons | apply List.Sublist.cons)) ⟨lq_, lq_, lq_, lq_, trivial⟩, (by omega), (by omega), (by rw [treeN_succ hil, ← hT]; unfold stepT; rw [if_pos hneg, if_pos hth]), hox2, hok2, hL2, rfl⟩
        first | omega | (simp only []; omega)
       ·exact absurd hc2 (by simp at hc2)
     ·skip
      refine AStep.alloc (ds := [_, _]) rfl (wants_plain rfl) rfl rfl Try.zeroValue26 rfl (fun b6 => ?_)
      refine AD.one (i := 5) (by kernel_rfl) ?_
      refine AStep.callP rfl (wants_plain rfl) rfl rfl rfl Try.call15 (key_vpN _ x1 x2) ⟨ot, trivial⟩ ?_
      refine AD.one (i := 6) (by kernel_rfl) ?_
      refine AStep.call rfl (wants_plain rfl) rfl rfl rfl Try.call20 hdv ⟨ot, ot, trivial⟩ (perm_none _) (by intro b hb; simp [bks, St.put] at hb ⊢; try first | exact hb | simp [hb] | (rcases hb with hb | hb <;> simp [hb]) | (rcases hb with hb | hb | hb <;> simp [hb])) ?_
      rintro _ _ ⟨_, rfl, L2, ad2, cap2, Sx2, rfl, hox2, hok2, hL2, rfl⟩
      refine AD.perm (S' := _) (perm_q11 (A := [_, _, _])) ?_
      refine a1_ 7 rfl mv_ ?_
      refine a1_ 8 rfl ex_ ?_
      refine a1_ 9 rfl ex_ ?_
      refine AD.one (i := 11) (by kernel_rfl) ?_
      refine AStep.store (k := 0) (cs' := [_, _]) rfl (wants_plain rfl) rfl rfl ot rfl rfl ot rfl rfl Try.sizeOf26 rfl rfl rfl (by intro b hb; simp [bks, St.put] at hb ⊢; try first | exact hb | simp [hb] | (rcases hb with hb | hb <;> simp [hb]) | (rcases hb with hb | hb | hb <;> simp [hb])) ?_
      refine a1_ 12 rfl mv_ ?_
      refine AD.wk (y := ⟨66, [(0, _), (2, _), (4, _), (5, _), (6, _), (7, _)], (⟨b6, 26, 2, [_, _]⟩ :: ⟨b4, 26, 2, [_, _]⟩ :: ⟨b2, 26, 2, [_, _]⟩ :: (Sx2 ++ List.flatMap bO L2))⟩) (Wk.as_ rfl rfl ⟨lk, lk, lk, lk, lk, lk, trivial⟩) rfl ?_
      refine AD.done (by kernel_rfl) ?_
      refine CD.seq ?_
      refine sr_ ?_
      refine os_ mv_ ?_
      refine os_ bn_ ?_
      refine nm_ [0, 2, 4, 5, 6, 37] ?_
      refine CD.cond ot (fun hc2 => ?_) (fun hc2 => ?_)
      ·have hc2' := hc2
       (try simp only [V.cnd, ne_eq] at hc2')
       refine CD.region ?_
       refine os_ (lab_ 0 [_, _]) ?_
       refine OD.store (k := 1) (cs' := [_, _]) (wants_plain rfl) rfl rfl ot rfl rfl ot rfl rfl Try.sizeOf26 rfl rfl rfl ?_
       refine OD.wk (Wk.as_ (n := 66) (l' := [(0, _), (2, _), (4, _), (5, _)]) (S' := (⟨b6, 26, 2, [_, _]⟩ :: ⟨b4, 26, 2, [_, _]⟩ :: ⟨b2, 26, 2, [_, _]⟩ :: (Sx2 ++ List.flatMap bO L2))) rfl rfl ⟨lk, lk, lk, lk, trivial⟩) ?_
       refine OD.nil ?_
       refine CD.exit ?_
       refine CD.region ?_
       refine os_ mv_ ?_
       refine os_ bn_ ?_
       refine os_ mv_ ?_
       refine nm_ [0, 2, 4, 5] ?_
       refine ⟨((i + 1), (delT T (hOf T) (keyN l[i])), L2, ad2, cap2, Sx2), ⟨66, [(0, .list 1 (l.flatMap cI) l.length), (2, .v (.pointer (some ⟨b2, 0, none⟩))), (4, .v (.pointer (some ⟨b4, 0, none⟩))), (5, .v (.int .i64 (((i + 1)) : Nat)))], (⟨b4, 26, 2, [.v (.slice ad2 (List.length L2) cap2), .v (.int .i64 (TreeL.root ((delT T (hOf T) (keyN l[i])))))]⟩ :: ⟨b2, 26, 2, [.v (.slice none 0 0), .v (.int .i64 0)]⟩ :: (Sx2 ++ List.flatMap bO L2))⟩, ?_, Wk.asS (n := 66) rfl (by repeat (first | exact List.Sublist.refl _ | apply List.Sublist.cons_cons | apply List.Sublist.cons)) ⟨lq_, lq_, lq_, lq_, trivial⟩, (by omega), (by omega), (by rw [treeN_succ hil, ← hT]; unfold stepT; rw [if_pos hneg, if_pos hth]), hox2, hok2, hL2, rfl⟩
       first | omega | (simp only []; omega)
      ·exact absurd hc2 (by simp at hc2)
   ·have hc1' := hc1
    (try simp only [V.cnd, ne_eq] at hc1')
    have hneg : ¬ l[i] < 0 := by simpa using hc1
    refine CD.skip ?_
    refine CD.seq ?_
    rcases hth : thereB T (keyN l[i]) (hOf T) with _ | _
    ·skip
     have hdv := insert_cn (G := G) (row := (i : Nat)) g (by omega) (keyN_ok l[i]) (by omega) hth
     refine CD.wk (Wk.cover (A := ⟨b4, 26, 2, [.v (.slice ad (List.length L) cap), .v (.int .i64 (TreeL.root T))]⟩) (R := [⟨b2, 26, 2, [.v (.slice none 0 0), .v (.int .i64 0)]⟩]) (Sd := (Sx ++ List.flatMap bO L)) (cs' := [.list 5 ((T).pages.flatMap cP) (T).pages.length, .v (.int .i64 (T).root)]) (List.Perm.refl _) (views_T hox hok hL)) ?_
     refine CD.draw (bks _) (by kernel_rfl) (fun _ h => h) ?_
     refine a0_ 0 rfl (lab_ 0 [_, _]) ?_
     refine a0_ 1 rfl mv_ ?_
     refine a0_ 2 rfl mv_ ?_
     refine a0_ 3 rfl (ix_ 1 (h := by first | exact .l (j := i) rfl hil | exact .r (j := i) rfl hil)) ?_
     refine a0_ 4 rfl ld_ ?_
     refine a0_ 6 rfl mv_ ?_
     refine AD0.later rfl ?_
     refine AD.two (i := 5) (j := 11) (by kernel_rfl) ?_ ?_
     ·skip
      refine AStep.callP rfl (wants_plain rfl) rfl rfl rfl Try.call15 (key_vpN _ x1 x2) ⟨ot, trivial⟩ ?_
      refine AD.two (i := 7) (j := 11) (by kernel_rfl) ?_ ?_
      ·skip
       refine AStep.call rfl (wants_plain rfl) rfl rfl rfl Try.call14 hdv ⟨ot, ot, ot, trivial⟩ (perm_none _) (by intro b hb; simp [bks, St.put] at hb ⊢; try first | exact hb | simp [hb] | (rcases hb with hb | hb <;> simp [hb]) | (rcases hb with hb | hb | hb <;> simp [hb])) ?_
       rintro _ _ ⟨_, rfl, L2, ad2, cap2, Sx2, rfl, hox2, hok2, hL2, rfl⟩
       refine AD.perm (S' := _) (perm_q11 (A := [_, _])) ?_
       refine a1_ 8 rfl mv_ ?_
       refine a1_ 9 rfl ex_ ?_
       refine a1_ 10 rfl ex_ ?_
       refine AD.one (i := 11) (by kernel_rfl) ?_
       refine AStep.alloc (ds := [_, _]) rfl (wants_plain rfl) rfl rfl Try.zeroValue26 rfl (fun b8 => ?_)
       refine AD.one (i := 12) (by kernel_rfl) ?_
       refine AStep.store (k := 0) (cs' := [_, _]) rfl (wants_plain rfl) rfl rfl ot rfl rfl ot rfl rfl Try.sizeOf26 rfl rfl rfl (by intro b hb; simp [bks, St.put] at hb ⊢; try first | exact hb | simp [hb] | (rcases hb with hb | hb <;> simp [hb]) | (rcases hb with hb | hb | hb <;> simp [hb])) ?_
       refine a1_ 13 rfl mv_ ?_
       refine AD.wk (y := ⟨66, [(0, _), (2, _), (4, _), (5, _), (8, _), (9, _)], (⟨b8, 26, 2, [_, _]⟩ :: ⟨b4, 26, 2, [_, _]⟩ :: ⟨b2, 26, 2, [_, _]⟩ :: (Sx2 ++ List.flatMap bO L2))⟩) (Wk.as_ rfl rfl ⟨lk, lk, lk, lk, lk, lk, trivial⟩) rfl ?_
       refine AD.done (by kernel_rfl) ?_
       refine sr_ ?_
       refine os_ mv_ ?_
       refine os_ bn_ ?_
       refine nm_ [0, 2, 4, 5, 8, 9, 51] ?_
       refine CD.cond ot (fun hc3 => ?_) (fun hc3 => ?_)
       ·have hc3' := hc3
        (try simp only [V.cnd, ne_eq] at hc3')
        refine CD.region ?_
        refine os_ (lab_ 0 [_, _]) ?_
        refine OD.store (k := 1) (cs' := [_, _]) (wants_plain rfl) rfl rfl ot rfl rfl ot rfl rfl Try.sizeOf26 rfl rfl rfl ?_
        refine OD.wk (Wk.as_ (n := 66) (l' := [(0, _), (2, _), (4, _), (5, _)]) (S' := (⟨b8, 26, 2, [_, _]⟩ :: ⟨b4, 26, 2, [_, _]⟩ :: ⟨b2, 26, 2, [_, _]⟩ :: (Sx2 ++ List.flatMap bO L2))) rfl rfl ⟨lk, lk, lk, lk, trivial⟩) ?_
        refine OD.nil ?_
        refine CD.region ?_
        refine os_ mv_ ?_
        refine os_ bn_ ?_
        refine os_ mv_ ?_
        refine nm_ [0, 2, 4, 5] ?_
        refine ⟨((i + 1), (insT T (hOf T) (keyN l[i]) (i : Nat)), L2, ad2, cap2, Sx2), ⟨66, [(0, .list 1 (l.flatMap cI) l.length), (2, .v (.pointer (some ⟨b2, 0, none⟩))), (4, .v (.pointer (some ⟨b4, 0, none⟩))), (5, .v (.int .i64 (((i + 1)) : Nat)))], (⟨b4, 26, 2, [.v (.slice ad2 (List.length L2) cap2), .v (.int .i64 (TreeL.root ((insT T (hOf T) (keyN l[i]) (i : Nat)))))]⟩ :: ⟨b2, 26, 2, [.v (.slice none 0 0), .v (.int .i64 0)]⟩ :: (Sx2 ++ List.flatMap bO L2))⟩, ?_, Wk.asS (n := 66) rfl (by repeat (first | exact List.Sublist.refl _ | apply List.Sublist.cons_cons | apply List.Sublist.cons)) ⟨lq_, lq_, lq_, lq_, trivial⟩, (by omega), (by omega), (by rw [treeN_succ hil, ← hT]; unfold stepT; rw [if_neg hneg, if_neg (by rw [hth]; decide)]), hox2, hok2, hL2, rfl⟩
        first | omega | (simp only []; omega)
       ·exact absurd hc3 (by simp at hc3)
      ·skip
       refine AStep.alloc (ds := [_, _]) rfl (wants_plain rfl) rfl rfl Try.zeroValue26 rfl (fun b8 => ?_)
       refine AD.one (i := 7) (by kernel_rfl) ?_
       refine AStep.call rfl (wants_plain rfl) rfl rfl rfl Try.call14 hdv ⟨ot, ot, ot, trivial⟩ (perm_none _) (by intro b hb; simp [bks, St.put] at hb ⊢; try first | exact hb | simp [hb] | (rcases hb with hb | hb <;> simp [hb]) | (rcases hb with hb | hb | hb <;> simp [hb])) ?_
       rintro _ _ ⟨_, rfl, L2, ad2, cap2, Sx2, rfl, hox2, hok2, hL2, rfl⟩
       refine AD.perm (S' := _) (perm_q11 (A := [_, _, _])) ?_
       refine a1_ 8 rfl mv_ ?_
       refine a1_ 9 rfl ex_ ?_
       refine a1_ 10 rfl ex_ ?_
       refine AD.one (i := 12) (by kernel_rfl) ?_
       refine AStep.store (k := 0) (cs' := [_, _]) rfl (wants_plain rfl) rfl rfl ot rfl rfl ot rfl rfl Try.sizeOf26 rfl rfl rfl (by intro b hb; simp [bks, St.put] at hb ⊢; try first | exact hb | simp [hb] | (rcases hb with hb | hb <;> simp [hb]) | (rcases hb with hb | hb | hb <;> simp [hb])) ?_
       refine a1_ 13 rfl mv_ ?_
       refine AD.wk (y := ⟨66, [(0, _), (2, _), (4, _), (5, _), (8, _), (9, _)], (⟨b8, 26, 2, [_, _]⟩ :: ⟨b4, 26, 2, [_, _]⟩ :: ⟨b2, 26, 2, [_, _]⟩ :: (Sx2 ++ List.flatMap bO L2))⟩) (Wk.as_ rfl rfl ⟨lk, lk, lk, lk, lk, lk, trivial⟩) rfl ?_
       refine AD.done (by kernel_rfl) ?_
       refine sr_ ?_
       refine os_ mv_ ?_
       refine os_ bn_ ?_
       refine nm_ [0, 2, 4, 5, 8, 9, 51] ?_
       refine CD.cond ot (fun hc3 => ?_) (fun hc3 => ?_)
       ·have hc3' := hc3
        (try simp only [V.cnd, ne_eq] at hc3')
        refine CD.region ?_
        refine os_ (lab_ 0 [_, _]) ?_
        refine OD.store (k := 1) (cs' := [_, _]) (wants_plain rfl) rfl rfl ot rfl rfl ot rfl rfl Try.sizeOf26 rfl rfl rfl ?_
        refine OD.wk (Wk.as_ (n := 66) (l' := [(0, _), (2, _), (4, _), (5, _)]) (S' := (⟨b8, 26, 2, [_, _]⟩ :: ⟨b4, 26, 2, [_, _]⟩ :: ⟨b2, 26, 2, [_, _]⟩ :: (Sx2 ++ List.flatMap bO L2))) rfl rfl ⟨lk, lk, lk, lk, trivial⟩) ?_
        refine OD.nil ?_
        refine CD.region ?_
        refine os_ mv_ ?_
        refine os_ bn_ ?_
        refine os_ mv_ ?_
        refine nm_ [0, 2, 4, 5] ?_
        refine ⟨((i + 1), (insT T (hOf T) (keyN l[i]) (i : Nat)), L2, ad2, cap2, Sx2), ⟨66, [(0, .list 1 (l.flatMap cI) l.length), (2, .v (.pointer (some ⟨b2, 0, none⟩))), (4, .v (.pointer (some ⟨b4, 0, none⟩))), (5, .v (.int .i64 (((i + 1)) : Nat)))], (⟨b4, 26, 2, [.v (.slice ad2 (List.length L2) cap2), .v (.int .i64 (TreeL.root ((insT T (hOf T) (keyN l[i]) (i : Nat)))))]⟩ :: ⟨b2, 26, 2, [.v (.slice none 0 0), .v (.int .i64 0)]⟩ :: (Sx2 ++ List.flatMap bO L2))⟩, ?_, Wk.asS (n := 66) rfl (by repeat (first | exact List.Sublist.refl _ | apply List.Sublist.cons_cons | apply List.Sublist.cons)) ⟨lq_, lq_, lq_, lq_, trivial⟩, (by omega), (by omega), (by rw [treeN_succ hil, ← hT]; unfold stepT; rw [if_neg hneg, if_neg (by rw [hth]; decide)]), hox2, hok2, hL2, rfl⟩
        first | omega | (simp only []; omega)
       ·exact absurd hc3 (by simp at hc3)
     ·skip
      refine AStep.alloc (ds := [_, _]) rfl (wants_plain rfl) rfl rfl Try.zeroValue26 rfl (fun b8 => ?_)
      refine AD.one (i := 5) (by kernel_rfl) ?_
      refine AStep.callP rfl (wants_plain rfl) rfl rfl rfl Try.call15 (key_vpN _ x1 x2) ⟨ot, trivial⟩ ?_
      refine AD.one (i := 7) (by kernel_rfl) ?_
      refine AStep.call rfl (wants_plain rfl) rfl rfl rfl Try.call14 hdv ⟨ot, ot, ot, trivial⟩ (perm_none _) (by intro b hb; simp [bks, St.put] at hb ⊢; try first | exact hb | simp [hb] | (rcases hb with hb | hb <;> simp [hb]) | (rcases hb with hb | hb | hb <;> simp [hb])) ?_
      rintro _ _ ⟨_, rfl, L2, ad2, cap2, Sx2, rfl, hox2, hok2, hL2, rfl⟩
      refine AD.perm (S' := _) (perm_q11 (A := [_, _, _])) ?_
      refine a1_ 8 rfl mv_ ?_
      refine a1_ 9 rfl ex_ ?_
      refine a1_ 10 rfl ex_ ?_
      refine AD.one (i := 12) (by kernel_rfl) ?_
      refine AStep.store (k := 0) (cs' := [_, _]) rfl (wants_plain rfl) rfl rfl ot rfl rfl ot rfl rfl Try.sizeOf26 rfl rfl rfl (by intro b hb; simp [bks, St.put] at hb ⊢; try first | exact hb | simp [hb] | (rcases hb with hb | hb <;> simp [hb]) | (rcases hb with hb | hb | hb <;> simp [hb])) ?_
      refine a1_ 13 rfl mv_ ?_
      refine AD.wk (y := ⟨66, [(0, _), (2, _), (4, _), (5, _), (8, _), (9, _)], (⟨b8, 26, 2, [_, _]⟩ :: ⟨b4, 26, 2, [_, _]⟩ :: ⟨b2, 26, 2, [_, _]⟩ :: (Sx2 ++ List.flatMap bO L2))⟩) (Wk.as_ rfl rfl ⟨lk, lk, lk, lk, lk, lk, trivial⟩) rfl ?_
      refine AD.done (by kernel_rfl) ?_
      refine sr_ ?_
      refine os_ mv_ ?_
      refine os_ bn_ ?_
      refine nm_ [0, 2, 4, 5, 8, 9, 51] ?_
      refine CD.cond ot (fun hc3 => ?_) (fun hc3 => ?_)
      ·have hc3' := hc3
       (try simp only [V.cnd, ne_eq] at hc3')
       refine CD.region ?_
       refine os_ (lab_ 0 [_, _]) ?_
       refine OD.store (k := 1) (cs' := [_, _]) (wants_plain rfl) rfl rfl ot rfl rfl ot rfl rfl Try.sizeOf26 rfl rfl rfl ?_
       refine OD.wk (Wk.as_ (n := 66) (l' := [(0, _), (2, _), (4, _), (5, _)]) (S' := (⟨b8, 26, 2, [_, _]⟩ :: ⟨b4, 26, 2, [_, _]⟩ :: ⟨b2, 26, 2, [_, _]⟩ :: (Sx2 ++ List.flatMap bO L2))) rfl rfl ⟨lk, lk, lk, lk, trivial⟩) ?_
       refine OD.nil ?_
       refine CD.region ?_
       refine os_ mv_ ?_
       refine os_ bn_ ?_
       refine os_ mv_ ?_
       refine nm_ [0, 2, 4, 5] ?_
       refine ⟨((i + 1), (insT T (hOf T) (keyN l[i]) (i : Nat)), L2, ad2, cap2, Sx2), ⟨66, [(0, .list 1 (l.flatMap cI) l.length), (2, .v (.pointer (some ⟨b2, 0, none⟩))), (4, .v (.pointer (some ⟨b4, 0, none⟩))), (5, .v (.int .i64 (((i + 1)) : Nat)))], (⟨b4, 26, 2, [.v (.slice ad2 (List.length L2) cap2), .v (.int .i64 (TreeL.root ((insT T (hOf T) (keyN l[i]) (i : Nat)))))]⟩ :: ⟨b2, 26, 2, [.v (.slice none 0 0), .v (.int .i64 0)]⟩ :: (Sx2 ++ List.flatMap bO L2))⟩, ?_, Wk.asS (n := 66) rfl (by repeat (first | exact List.Sublist.refl _ | apply List.Sublist.cons_cons | apply List.Sublist.cons)) ⟨lq_, lq_, lq_, lq_, trivial⟩, (by omega), (by omega), (by rw [treeN_succ hil, ← hT]; unfold stepT; rw [if_neg hneg, if_neg (by rw [hth]; decide)]), hox2, hok2, hL2, rfl⟩
       first | omega | (simp only []; omega)
      ·exact absurd hc3 (by simp at hc3)
    ·skip
     have hdv := insert_cy (G := G) (row := (i : Nat)) g (keyN_ok l[i]) (by omega) hth
     refine CD.draw (bks _) (by kernel_rfl) (fun _ h => h) ?_
     refine a0_ 0 rfl (lab_ 0 [_, _]) ?_
     refine a0_ 1 rfl mv_ ?_
     refine a0_ 2 rfl mv_ ?_
     refine a0_ 3 rfl (ix_ 1 (h := by first | exact .l (j := i) rfl hil | exact .r (j := i) rfl hil)) ?_
     refine a0_ 4 rfl ld_ ?_
     refine a0_ 6 rfl mv_ ?_
     refine AD0.later rfl ?_
     refine AD.two (i := 5) (j := 11) (by kernel_rfl) ?_ ?_
     ·skip
      refine AStep.callP rfl (wants_plain rfl) rfl rfl rfl Try.call15 (key_vpN _ x1 x2) ⟨ot, trivial⟩ ?_
      refine AD.two (i := 7) (j := 11) (by kernel_rfl) ?_ ?_
      ·skip
       refine AStep.lookC rfl (wants_plain rfl) rfl rfl rfl Try.call14 hdv (fun r S h => FailE.flat h) ⟨⟨_, ot, view_Tt hox hok hL (fun B hB => by first | exact List.mem_cons_of_mem _ (List.mem_cons_of_mem _ hB) | exact List.mem_cons_of_mem _ (List.mem_cons_of_mem _ (List.mem_cons_of_mem _ hB)))⟩, ⟨_, ot, view_same⟩, ⟨_, ot, view_same⟩, trivial⟩ ?_
       rintro _ Sf ⟨ad0, cap0, rfl, _⟩
       refine AD.tailS ?_
       refine a1_ 8 rfl mv_ ?_
       refine a1_ 9 rfl ex_ ?_
       refine a1_ 10 rfl ex_ ?_
       refine AD.one (i := 11) (by kernel_rfl) ?_
       refine AStep.alloc (ds := [_, _]) rfl (wants_plain rfl) rfl rfl Try.zeroValue26 rfl (fun b8 => ?_)
       refine AD.one (i := 12) (by kernel_rfl) ?_
       refine AStep.store (k := 0) (cs' := [_, _]) rfl (wants_plain rfl) rfl rfl ot rfl rfl ot rfl rfl Try.sizeOf26 rfl rfl rfl (by intro b hb; simp [bks, St.put] at hb ⊢; try first | exact hb | simp [hb] | (rcases hb with hb | hb <;> simp [hb]) | (rcases hb with hb | hb | hb <;> simp [hb])) ?_
       refine a1_ 13 rfl mv_ ?_
       refine AD.wk (y := ⟨66, [(0, _), (2, _), (4, _), (5, _), (8, _), (9, _)], (⟨b8, 26, 2, [_, _]⟩ :: ⟨b4, 26, 2, [_, _]⟩ :: ⟨b2, 26, 2, [_, _]⟩ :: (Sx ++ List.flatMap bO L))⟩) (Wk.as_ rfl rfl ⟨lk, lk, lk, lk, lk, lk, trivial⟩) rfl ?_
       refine AD.done (by kernel_rfl) ?_
       refine sr_ ?_
       refine os_ mv_ ?_
       refine os_ bn_ ?_
       refine nm_ [0, 2, 4, 5, 8, 9, 51] ?_
       refine CD.cond ot (fun hc3 => ?_) (fun hc3 => ?_)
       ·exact absurd hc3 (by simp at hc3)
       ·have hc3' := hc3
        (try simp only [V.cnd, ne_eq] at hc3')
        refine sr_ ?_
        refine os_ mv_ ?_
        refine os_ bn_ ?_
        refine nm_ [0, 2, 4, 5, 54] ?_
        refine CD.cond ot (fun hc4 => ?_) (fun hc4 => ?_)
        ·exact absurd hc4 (by simp at hc4)
        ·have hc4' := hc4
         (try simp only [V.cnd, ne_eq] at hc4')
         refine CD.skip ?_
         refine CD.region ?_
         refine os_ mv_ ?_
         refine os_ bn_ ?_
         refine os_ mv_ ?_
         refine nm_ [0, 2, 4, 5] ?_
         refine ⟨((i + 1), T, L, ad, cap, Sx), ⟨66, [(0, .list 1 (l.flatMap cI) l.length), (2, .v (.pointer (some ⟨b2, 0, none⟩))), (4, .v (.pointer (some ⟨b4, 0, none⟩))), (5, .v (.int .i64 (((i + 1)) : Nat)))], (⟨b4, 26, 2, [.v (.slice ad (List.length L) cap), .v (.int .i64 (TreeL.root T))]⟩ :: ⟨b2, 26, 2, [.v (.slice none 0 0), .v (.int .i64 0)]⟩ :: (Sx ++ List.flatMap bO L))⟩, ?_, Wk.asS (n := 66) rfl (by repeat (first | exact List.Sublist.refl _ | apply List.Sublist.cons_cons | apply List.Sublist.cons)) ⟨lq_, lq_, lq_, lq_, trivial⟩, (by omega), (by omega), (by rw [treeN_succ hil, ← hT]; unfold stepT; rw [if_neg hneg, if_pos hth]), hox, hok, hL, rfl⟩
         first | omega | (simp only []; omega)
      ·skip
       refine AStep.alloc (ds := [_, _]) rfl (wants_plain rfl) rfl rfl Try.zeroValue26 rfl (fun b8 => ?_)
       refine AD.one (i := 7) (by kernel_rfl) ?_
       refine AStep.lookC rfl (wants_plain rfl) rfl rfl rfl Try.call14 hdv (fun r S h => FailE.flat h) ⟨⟨_, ot, view_Tt hox hok hL (fun B hB => by first | exact List.mem_cons_of_mem _ (List.mem_cons_of_mem _ hB) | exact List.mem_cons_of_mem _ (List.mem_cons_of_mem _ (List.mem_cons_of_mem _ hB)))⟩, ⟨_, ot, view_same⟩, ⟨_, ot, view_same⟩, trivial⟩ ?_
       rintro _ Sf ⟨ad0, cap0, rfl, _⟩
       refine AD.tailS ?_
       refine a1_ 8 rfl mv_ ?_
       refine a1_ 9 rfl ex_ ?_
       refine a1_ 10 rfl ex_ ?_
       refine AD.one (i := 12) (by kernel_rfl) ?_
       refine AStep.store (k := 0) (cs' := [_, _]) rfl (wants_plain rfl) rfl rfl ot rfl rfl ot rfl rfl Try.sizeOf26 rfl rfl rfl (by intro b hb; simp [bks, St.put] at hb ⊢; try first | exact hb | simp [hb] | (rcases hb with hb | hb <;> simp [hb]) | (rcases hb with hb | hb | hb <;> simp [hb])) ?_
       refine a1_ 13 rfl mv_ ?_
       refine AD.wk (y := ⟨66, [(0, _), (2, _), (4, _), (5, _), (8, _), (9, _)], (⟨b8, 26, 2, [_, _]⟩ :: ⟨b4, 26, 2, [_, _]⟩ :: ⟨b2, 26, 2, [_, _]⟩ :: (Sx ++ List.flatMap bO L))⟩) (Wk.as_ rfl rfl ⟨lk, lk, lk, lk, lk, lk, trivial⟩) rfl ?_
       refine AD.done (by kernel_rfl) ?_
       refine sr_ ?_
       refine os_ mv_ ?_
       refine os_ bn_ ?_
       refine nm_ [0, 2, 4, 5, 8, 9, 51] ?_
       refine CD.cond ot (fun hc3 => ?_) (fun hc3 => ?_)
       ·exact absurd hc3 (by simp at hc3)
       ·have hc3' := hc3
        (try simp only [V.cnd, ne_eq] at hc3')
        refine sr_ ?_
        refine os_ mv_ ?_
        refine os_ bn_ ?_
        refine nm_ [0, 2, 4, 5, 54] ?_
        refine CD.cond ot (fun hc4 => ?_) (fun hc4 => ?_)
        ·exact absurd hc4 (by simp at hc4)
        ·have hc4' := hc4
         (try simp only [V.cnd, ne_eq] at hc4')
         refine CD.skip ?_
         refine CD.region ?_
         refine os_ mv_ ?_
         refine os_ bn_ ?_
         refine os_ mv_ ?_
         refine nm_ [0, 2, 4, 5] ?_
         refine ⟨((i + 1), T, L, ad, cap, Sx), ⟨66, [(0, .list 1 (l.flatMap cI) l.length), (2, .v (.pointer (some ⟨b2, 0, none⟩))), (4, .v (.pointer (some ⟨b4, 0, none⟩))), (5, .v (.int .i64 (((i + 1)) : Nat)))], (⟨b4, 26, 2, [.v (.slice ad (List.length L) cap), .v (.int .i64 (TreeL.root T))]⟩ :: ⟨b2, 26, 2, [.v (.slice none 0 0), .v (.int .i64 0)]⟩ :: (Sx ++ List.flatMap bO L))⟩, ?_, Wk.asS (n := 66) rfl (by repeat (first | exact List.Sublist.refl _ | apply List.Sublist.cons_cons | apply List.Sublist.cons)) ⟨lq_, lq_, lq_, lq_, trivial⟩, (by omega), (by omega), (by rw [treeN_succ hil, ← hT]; unfold stepT; rw [if_neg hneg, if_pos hth]), hox, hok, hL, rfl⟩
         first | omega | (simp only []; omega)
     ·skip
      refine AStep.alloc (ds := [_, _]) rfl (wants_plain rfl) rfl rfl Try.zeroValue26 rfl (fun b8 => ?_)
      refine AD.one (i := 5) (by kernel_rfl) ?_
      refine AStep.callP rfl (wants_plain rfl) rfl rfl rfl Try.call15 (key_vpN _ x1 x2) ⟨ot, trivial⟩ ?_
      refine AD.one (i := 7) (by kernel_rfl) ?_
      refine AStep.lookC rfl (wants_plain rfl) rfl rfl rfl Try.call14 hdv (fun r S h => FailE.flat h) ⟨⟨_, ot, view_Tt hox hok hL (fun B hB => by first | exact List.mem_cons_of_mem _ (List.mem_cons_of_mem _ hB) | exact List.mem_cons_of_mem _ (List.mem_cons_of_mem _ (List.mem_cons_of_mem _ hB)))⟩, ⟨_, ot, view_same⟩, ⟨_, ot, view_same⟩, trivial⟩ ?_
      rintro _ Sf ⟨ad0, cap0, rfl, _⟩
      refine AD.tailS ?_
      refine a1_ 8 rfl mv_ ?_
      refine a1_ 9 rfl ex_ ?_
      refine a1_ 10 rfl ex_ ?_
      refine AD.one (i := 12) (by kernel_rfl) ?_
      refine AStep.store (k := 0) (cs' := [_, _]) rfl (wants_plain rfl) rfl rfl ot rfl rfl ot rfl rfl Try.sizeOf26 rfl rfl rfl (by intro b hb; simp [bks, St.put] at hb ⊢; try first | exact hb | simp [hb] | (rcases hb with hb | hb <;> simp [hb]) | (rcases hb with hb | hb | hb <;> simp [hb])) ?_
      refine a1_ 13 rfl mv_ ?_
      refine AD.wk (y := ⟨66, [(0, _), (2, _), (4, _), (5, _), (8, _), (9, _)], (⟨b8, 26, 2, [_, _]⟩ :: ⟨b4, 26, 2, [_, _]⟩ :: ⟨b2, 26, 2, [_, _]⟩ :: (Sx ++ List.flatMap bO L))⟩) (Wk.as_ rfl rfl ⟨lk, lk, lk, lk, lk, lk, trivial⟩) rfl ?_
      refine AD.done (by kernel_rfl) ?_
      refine sr_ ?_
      refine os_ mv_ ?_
      refine os_ bn_ ?_
      refine nm_ [0, 2, 4, 5, 8, 9, 51] ?_
      refine CD.cond ot (fun hc3 => ?_) (fun hc3 => ?_)
      ·exact absurd hc3 (by simp at hc3)
      ·have hc3' := hc3
       (try simp only [V.cnd, ne_eq] at hc3')
       refine sr_ ?_
       refine os_ mv_ ?_
       refine os_ bn_ ?_
       refine nm_ [0, 2, 4, 5, 54] ?_
       refine CD.cond ot (fun hc4 => ?_) (fun hc4 => ?_)
       ·exact absurd hc4 (by simp at hc4)
       ·have hc4' := hc4
        (try simp only [V.cnd, ne_eq] at hc4')
        refine CD.skip ?_
        refine CD.region ?_
        refine os_ mv_ ?_
        refine os_ bn_ ?_
        refine os_ mv_ ?_
        refine nm_ [0, 2, 4, 5] ?_
        refine ⟨((i + 1), T, L, ad, cap, Sx), ⟨66, [(0, .list 1 (l.flatMap cI) l.length), (2, .v (.pointer (some ⟨b2, 0, none⟩))), (4, .v (.pointer (some ⟨b4, 0, none⟩))), (5, .v (.int .i64 (((i + 1)) : Nat)))], (⟨b4, 26, 2, [.v (.slice ad (List.length L) cap), .v (.int .i64 (TreeL.root T))]⟩ :: ⟨b2, 26, 2, [.v (.slice none 0 0), .v (.int .i64 0)]⟩ :: (Sx ++ List.flatMap bO L))⟩, ?_, Wk.asS (n := 66) rfl (by repeat (first | exact List.Sublist.refl _ | apply List.Sublist.cons_cons | apply List.Sublist.cons)) ⟨lq_, lq_, lq_, lq_, trivial⟩, (by omega), (by omega), (by rw [treeN_succ hil, ← hT]; unfold stepT; rw [if_neg hneg, if_pos hth]), hox, hok, hL, rfl⟩
        first | omega | (simp only []; omega)
  ·have hc0' := hc0
   (try simp only [V.cnd, ne_eq] at hc0')
   have hend : i = min l.length 70 := by simp_all; omega
   have hTl : T = treeL l := by rw [hT, hend]; rfl
   clear hT
   subst hTl
   have g : GoodT (treeL l) 70 := good_treeL l
   have hcv := check_g (G := G) g
   have hpos := g.val.pos
   have hLl : L.length = (treeL l).pages.length := by rw [← hL, List.length_map]
   refine CD.exit ?_
   refine CD.seq ?_
   refine CD.draw (bks (List.eraseIdx _ 1)) (by kernel_rfl) (fun _ h => (List.Sublist.map _ (List.eraseIdx_sublist _ 1)).subset h) ?_
   refine a0_ 0 rfl (lab_ 0 [_, _]) ?_
   refine a0_ 1 rfl (lab_ 0 [_, _]) ?_
   refine AD0.later rfl ?_
   refine AD.one (i := 2) (by kernel_rfl) ?_
   refine AStep.look rfl (wants_plain rfl) rfl rfl rfl Try.call19 (hcv) rfl ⟨⟨_, ot, view_Tt hox hok hL (fun B hB => by first | exact List.mem_cons_of_mem _ (List.mem_cons_of_mem _ hB) | exact List.mem_cons_of_mem _ (List.mem_cons_of_mem _ (List.mem_cons_of_mem _ hB)))⟩, trivial⟩ ?_
   refine a1_ 3 rfl bn_ ?_
   refine a1_ 4 rfl mv_ ?_
   refine AD.split (t := 60) lk (fun hg60 => ?_) (fun hg60 => ?_)
   ·have hg60' := hg60; (try simp only [V.cnd, ne_eq] at hg60')
    refine a1_ 5 rfl (fa_ 0) ?_
    refine AD.two (i := 6) (j := 10) (by kernel_rfl) ?_ ?_
    ·skip
     refine at_ rfl (lb_ 0) ?_
     refine a1_ 7 rfl ln_ ?_
     refine a1_ 8 rfl bn_ ?_
     refine a1_ 9 rfl pkT_ ?_
     refine AD.one (i := 10) (by kernel_rfl) ?_
     refine AStep.store (k := 1) (cs' := [_, _]) rfl (wants_plain rfl) rfl rfl ot rfl rfl ot rfl rfl Try.sizeOf26 rfl rfl rfl (by intro b hb; simp [bks, St.put] at hb ⊢; try first | exact hb | simp [hb] | (rcases hb with hb | hb <;> simp [hb]) | (rcases hb with hb | hb | hb <;> simp [hb])) ?_
     refine a1_ 11 rfl mv_ ?_
     refine AD.wk (y := ⟨66, [(2, _), (3, _)], (⟨b4, 26, 2, [_, _]⟩ :: ⟨b2, 26, 2, [_, _]⟩ :: (Sx ++ List.flatMap bO L))⟩) (Wk.as_ rfl rfl ⟨lk, lk, trivial⟩) rfl ?_
     refine AD.done (by kernel_rfl) ?_
     refine CD.ret ?_
     refine ⟨.inr rfl, _, (Sx ++ List.flatMap bO L), (by repeat (first | exact List.Sublist.refl _ | apply List.Sublist.cons)), ret_two Try.results17 (res_cells (k := 1) (ds := [_, _]) (Nat.le_of_ble_eq_true rfl) lk rfl rfl Try.isAgg26 Try.sizeOf26 rfl rfl) (res_tmp (Nat.le_of_ble_eq_true rfl) lk), ?_⟩
     exact ⟨_, by rw [show decide ((List.length L : Int) > 0) = true from decide_eq_true (by omega)], L, ad, cap, Sx, rfl, hox, hok, hL, rfl⟩
    ·skip
     refine AStep.store (k := 1) (cs' := [_, _]) rfl (wants_plain rfl) rfl rfl ot rfl rfl ot rfl rfl Try.sizeOf26 rfl rfl rfl (by intro b hb; simp [bks, St.put] at hb ⊢; try first | exact hb | simp [hb] | (rcases hb with hb | hb <;> simp [hb]) | (rcases hb with hb | hb | hb <;> simp [hb])) ?_
     refine AD.one (i := 6) (by kernel_rfl) ?_
     refine at_ rfl (lb_ 0) ?_
     refine a1_ 7 rfl ln_ ?_
     refine a1_ 8 rfl bn_ ?_
     refine a1_ 9 rfl pkT_ ?_
     refine a1_ 11 rfl mv_ ?_
     refine AD.wk (y := ⟨66, [(2, _), (3, _)], (⟨b4, 26, 2, [_, _]⟩ :: ⟨b2, 26, 2, [_, _]⟩ :: (Sx ++ List.flatMap bO L))⟩) (Wk.as_ rfl rfl ⟨lk, lk, trivial⟩) rfl ?_
     refine AD.done (by kernel_rfl) ?_
     refine CD.ret ?_
     refine ⟨.inr rfl, _, (Sx ++ List.flatMap bO L), (by repeat (first | exact List.Sublist.refl _ | apply List.Sublist.cons)), ret_two Try.results17 (res_cells (k := 1) (ds := [_, _]) (Nat.le_of_ble_eq_true rfl) lk rfl rfl Try.isAgg26 Try.sizeOf26 rfl rfl) (res_tmp (Nat.le_of_ble_eq_true rfl) lk), ?_⟩
     exact ⟨_, by rw [show decide ((List.length L : Int) > 0) = true from decide_eq_true (by omega)], L, ad, cap, Sx, rfl, hox, hok, hL, rfl⟩
   ·exact absurd hg60 (by simp at hg60)
 ·have hg15' := hg15; (try simp only [V.cnd, ne_eq] at hg15')
  refine sk_ ?_
  refine sk_ ?_
  refine os_ pkF_ ?_
  refine nm_ [0, 2, 4, 5, 18] ?_
  refine CD.condF ot (by first | rfl | assumption) ?_
  have hend : i = min l.length 70 := by simp_all; omega
  have hTl : T = treeL l := by rw [hT, hend]; rfl
  clear hT
  subst hTl
  have g : GoodT (treeL l) 70 := good_treeL l
  have hcv := check_g (G := G) g
  have hpos := g.val.pos
  have hLl : L.length = (treeL l).pages.length := by rw [← hL, List.length_map]
  refine CD.exit ?_
  refine CD.seq ?_
  refine CD.draw (bks (List.eraseIdx _ 1)) (by kernel_rfl) (fun _ h => (List.Sublist.map _ (List.eraseIdx_sublist _ 1)).subset h) ?_
  refine a0_ 0 rfl (lab_ 0 [_, _]) ?_
  refine a0_ 1 rfl (lab_ 0 [_, _]) ?_
  refine AD0.later rfl ?_
  refine AD.one (i := 2) (by kernel_rfl) ?_
  refine AStep.look rfl (wants_plain rfl) rfl rfl rfl Try.call19 (hcv) rfl ⟨⟨_, ot, view_Tt hox hok hL (fun B hB => by first | exact List.mem_cons_of_mem _ (List.mem_cons_of_mem _ hB) | exact List.mem_cons_of_mem _ (List.mem_cons_of_mem _ (List.mem_cons_of_mem _ hB)))⟩, trivial⟩ ?_
  refine a1_ 3 rfl bn_ ?_
  refine a1_ 4 rfl mv_ ?_
  refine AD.split (t := 60) lk (fun hg60 => ?_) (fun hg60 => ?_)
  ·have hg60' := hg60; (try simp only [V.cnd, ne_eq] at hg60')
   refine a1_ 5 rfl (fa_ 0) ?_
   refine AD.two (i := 6) (j := 10) (by kernel_rfl) ?_ ?_
   ·skip
    refine at_ rfl (lb_ 0) ?_
    refine a1_ 7 rfl ln_ ?_
    refine a1_ 8 rfl bn_ ?_
    refine a1_ 9 rfl pkT_ ?_
    refine AD.one (i := 10) (by kernel_rfl) ?_
    refine AStep.store (k := 1) (cs' := [_, _]) rfl (wants_plain rfl) rfl rfl ot rfl rfl ot rfl rfl Try.sizeOf26 rfl rfl rfl (by intro b hb; simp [bks, St.put] at hb ⊢; try first | exact hb | simp [hb] | (rcases hb with hb | hb <;> simp [hb]) | (rcases hb with hb | hb | hb <;> simp [hb])) ?_
    refine a1_ 11 rfl mv_ ?_
    refine AD.wk (y := ⟨66, [(2, _), (3, _)], (⟨b4, 26, 2, [_, _]⟩ :: ⟨b2, 26, 2, [_, _]⟩ :: (Sx ++ List.flatMap bO L))⟩) (Wk.as_ rfl rfl ⟨lk, lk, trivial⟩) rfl ?_
    refine AD.done (by kernel_rfl) ?_
    refine CD.ret ?_
    refine ⟨.inr rfl, _, (Sx ++ List.flatMap bO L), (by repeat (first | exact List.Sublist.refl _ | apply List.Sublist.cons)), ret_two Try.results17 (res_cells (k := 1) (ds := [_, _]) (Nat.le_of_ble_eq_true rfl) lk rfl rfl Try.isAgg26 Try.sizeOf26 rfl rfl) (res_tmp (Nat.le_of_ble_eq_true rfl) lk), ?_⟩
    exact ⟨_, by rw [show decide ((List.length L : Int) > 0) = true from decide_eq_true (by omega)], L, ad, cap, Sx, rfl, hox, hok, hL, rfl⟩
   ·skip
    refine AStep.store (k := 1) (cs' := [_, _]) rfl (wants_plain rfl) rfl rfl ot rfl rfl ot rfl rfl Try.sizeOf26 rfl rfl rfl (by intro b hb; simp [bks, St.put] at hb ⊢; try first | exact hb | simp [hb] | (rcases hb with hb | hb <;> simp [hb]) | (rcases hb with hb | hb | hb <;> simp [hb])) ?_
    refine AD.one (i := 6) (by kernel_rfl) ?_
    refine at_ rfl (lb_ 0) ?_
    refine a1_ 7 rfl ln_ ?_
    refine a1_ 8 rfl bn_ ?_
    refine a1_ 9 rfl pkT_ ?_
    refine a1_ 11 rfl mv_ ?_
    refine AD.wk (y := ⟨66, [(2, _), (3, _)], (⟨b4, 26, 2, [_, _]⟩ :: ⟨b2, 26, 2, [_, _]⟩ :: (Sx ++ List.flatMap bO L))⟩) (Wk.as_ rfl rfl ⟨lk, lk, trivial⟩) rfl ?_
    refine AD.done (by kernel_rfl) ?_
    refine CD.ret ?_
    refine ⟨.inr rfl, _, (Sx ++ List.flatMap bO L), (by repeat (first | exact List.Sublist.refl _ | apply List.Sublist.cons)), ret_two Try.results17 (res_cells (k := 1) (ds := [_, _]) (Nat.le_of_ble_eq_true rfl) lk rfl rfl Try.isAgg26 Try.sizeOf26 rfl rfl) (res_tmp (Nat.le_of_ble_eq_true rfl) lk), ?_⟩
    exact ⟨_, by rw [show decide ((List.length L : Int) > 0) = true from decide_eq_true (by omega)], L, ad, cap, Sx, rfl, hox, hok, hL, rfl⟩
  ·exact absurd hg60 (by simp at hg60)

end Go.Proofs.Ythnobhekodiciaa.Tw

namespace Go.Proofs.Ythnobhekodiciaa.Tw
open Go.RowKit V Go.Proofs.Ythnobhekodiciaa.Tr Pk
set_option linter.unusedVariables false
set_option linter.unusedSimpArgs false

theorem set_hb {t : TreeL} {i : Int} {q : PgL} (hb : ∀ p ∈ t.pages, p.keys.length ≤ maxLen ∧ p.kids.length ≤ maxLen) (hq : q.keys.length ≤ maxLen ∧ q.kids.length ≤ maxLen) : ∀ p ∈ (t.set i q).pages, p.keys.length ≤ maxLen ∧ p.kids.length ≤ maxLen := fun p hp => by
 rcases List.mem_or_eq_of_mem_set hp with hp | rfl
 ·exact hb p hp
 ·exact hq
variable {G : List (Nat × List Value)}
theorem check_bad {t : TreeL} (h : checkF t = 11) (hb : ∀ p ∈ t.pages, p.keys.length ≤ maxLen ∧ p.kids.length ≤ maxLen) : VP Try.prog G 19 [.agg (cT t)] (.v (.int .i64 11)) := by
 have := check_vp (G := G) t hb; rwa [h] at this
theorem find_bad {t : TreeL} {k : K} (h : checkF t = 11) (hb : ∀ p ∈ t.pages, p.keys.length ≤ maxLen ∧ p.kids.length ≤ maxLen) : VP Try.prog G 18 [.agg (cT t), .list 1 (k.flatMap cB) k.length] (.tup [.v (.int .i64 0), .v (.int .i64 11)]) := by
 have := find_x (G := G) t 0 k hb (fun h0 => by rw [h] at h0; cases h0)
 have e : findF t k 0 = (0, 11) := by unfold findF; rw [refF_bad (by rw [h]; decide), h]; rfl
 rwa [e] at this
theorem insert_bad {t : TreeL} {k : K} (h : checkF t = 11) (hb : ∀ p ∈ t.pages, p.keys.length ≤ maxLen ∧ p.kids.length ≤ maxLen) : VC Try.prog G 14 [.agg (cT t), .list 1 (k.flatMap cB) k.length, .v (.int .i64 0)] [] (FailE 11) := by
 have := insert_vc (G := G) t 0 k 0 hb (fun h0 => by rw [h] at h0; cases h0)
 have e : insE t k 0 0 = (noT, 11) := by unfold insE; rw [refF_bad (by rw [h]; decide), h]; rfl
 rw [e] at this
 exact VC.post this fun _ _ h => h.fail

theorem info3_Twv : (Try.prog.info? 3).map (fun i => (i.zero, i.size, i.bytes)) = some (some (.int .i64 0), 1, 8) := by kernel_rfl

theorem info5_Twv : (Try.prog.info? 5).map (fun i => (i.zero, i.size, i.bytes)) = some (some (.int .u8 0), 1, 1) := by kernel_rfl

set_option maxHeartbeats 4000000 in
set_option maxRecDepth 100000 in
theorem bad_law (l : List Int) (hl : l.length ≤ maxLen) (hw : WfI l) (a : Int) (a1 : -9223372036854775808 ≤ a) (a2 : a ≤ 9223372036854775807) (b : Int) (b1 : -9223372036854775808 ≤ b) (b2 : b ≤ 9223372036854775807) : VP Try.prog G 4 [.list 1 (l.flatMap cI) l.length, .v (.int .i64 a), .v (.int .i64 b)] (.v (.bool true)) := by
 refine VC.body Try.func4 rfl Try.ntmps4 (Nat.le_of_ble_eq_true rfl) fun X0 w0 S00 => ?_
 have hmx : maxLen = 9223372036854775807 := rfl
 refine sr_ ?_
 refine os_ mv_ ?_
 refine nm_ [0, 1, 2] ?_
 refine sr_ ?_
 refine os_ mv_ ?_
 refine OD.call (wants_plain rfl) rfl rfl rfl Try.call17 (tree_vc l hl hw) ⟨ot, trivial⟩ (perm_none _) ?_
 rintro _ _ ⟨_, rfl, L, ad, cap, Sx, rfl, hox, hok, hL, rfl⟩
 refine OD.perm (S' := (Sx ++ List.flatMap bO L)) (List.Perm.of_eq (List.append_nil _)) ?_
 refine os_ mv_ ?_
 refine os_ ex_ ?_
 refine os_ ex_ ?_
 refine OD.alloc (ds := [_, _]) (wants_plain rfl) rfl rfl Try.zeroValue26 rfl (fun b7 => ?_)
 refine OD.store (k := 0) (cs' := [_, _]) (wants_plain rfl) rfl rfl ot rfl rfl ot rfl rfl Try.sizeOf26 rfl rfl rfl ?_
 refine os_ mv_ ?_
 refine OD.wk (Wk.as_ (n := 92) (l' := [(1, _), (2, _), (7, _), (8, _)]) (S' := (⟨b7, 26, 2, [_, _]⟩ :: (Sx ++ List.flatMap bO L))) rfl rfl ⟨lk, lk, lk, lk, trivial⟩) ?_
 refine OD.nil ?_
 refine CD.seq ?_
 refine sr_ ?_
 refine os_ mv_ ?_
 refine os_ un_ ?_
 refine nm_ [1, 2, 7, 21] ?_
 refine CD.cond ot (fun hc0 => ?_) (fun hc0 => ?_)
 ·exact absurd hc0 (by simp at hc0)
 ·have hc0' := hc0
  (try simp only [V.cnd, ne_eq] at hc0')
  have g := good_treeL l
  have hpos := g.val.pos
  have hmost := g.val.most
  have hLl : L.length = (treeL l).pages.length := by rw [← hL, List.length_map]
  have hpb := pickedF_bd a (m := (L.length : Nat)) (by omega)
  obtain ⟨i, hi⟩ := Int.eq_ofNat_of_zero_le hpb.1
  have hil : i < L.length := by omega
  have hpk := picked_vp G a (L.length : Nat) a1 a2 (by omega)
  rw [hi] at hpk
  have hqb := pickedF_bd b (by decide : (1 : Int) ≤ 4)
  have hpq := picked_vp G b 4 b1 b2 (by decide)
  obtain ⟨bx, rfl, hxl, hxc, rfl⟩ := hox.pos (by omega)
  have hir : (0 : Int) ≤ (i : Int) ∧ (i : Int) < (treeL l).pages.length := by omega
  have hoj := hok _ (List.getElem_mem hil)
  have hpj : L[i].p = (treeL l).pg (i : Int) := map_pg hL (i := (i : Int)) hir hil
  obtain ⟨o, ho⟩ : ∃ o, o = L[i] := ⟨_, rfl⟩
  rw [← ho] at hoj hpj
  rcases o with ⟨p, ak, ck, sk, ai, ci, si⟩
  obtain ⟨hk1, hi1⟩ : OwnKs p.keys ak ck sk ∧ OwnI p.kids ai ci si := hoj
  have hpe : p = (treeL l).pg (i : Int) := hpj
  have hhb := good_hb g
  have hpb2 : p.keys.length ≤ 4 ∧ p.kids.length ≤ 5 ∧ p.high.length ≤ 100 := by (have po := g.val.page _ (pg_mem hir); rw [← hpe] at po; have h1 := po.few; have h2 := po.hlen; cases hl : p.leaf; (have := (po.node hl).1; omega); (have := po.leaf hl; omega))
  have hperm : (L.flatMap bO).Perm (sk ++ (si ++ ((L.eraseIdx i).flatMap bO))) := by have := perm_at bO hil; rw [← ho] at this; exact this.trans (by rw [show bO ⟨p, ak, ck, sk, ai, ci, si⟩ = sk ++ si from rfl, List.append_assoc])
  refine CD.perm (S' := ⟨b7, 26, 2, [.v (.slice (some ⟨bx, 0, none⟩) (List.length L) cap), .v (.int .i64 (TreeL.root (treeL l)))]⟩ :: ⟨bx, 44, cap * 5, List.flatMap gO L⟩ :: (sk ++ (si ++ ((L.eraseIdx i).flatMap bO)))) (List.Perm.cons _ (List.Perm.cons _ hperm)) ?_
  refine CD.skip ?_
  refine sr_ ?_
  refine os_ mv_ ?_
  refine os_ (fa_ 0) ?_
  refine os_ (lb_ 0) ?_
  refine os_ ln_ ?_
  refine OD.callP (wants_plain rfl) rfl rfl rfl Try.call12 (hpk) ⟨ot, ot, trivial⟩ ?_
  refine os_ mv_ ?_
  refine OD.wk (Wk.as_ (n := 92) (l' := [(2, _), (7, _), (9, _)]) (S' := (⟨b7, 26, 2, [_, _]⟩ :: _ :: (sk ++ (si ++ ((L.eraseIdx i).flatMap bO))))) rfl rfl ⟨lk, lk, lk, trivial⟩) ?_
  refine OD.nil ?_
  refine sr_ ?_
  refine os_ (fa_ 0) ?_
  refine os_ (lb_ 0) ?_
  refine os_ mv_ ?_
  refine os_ (ix_ 5 (h := by first | exact .l (j := i) rfl hil | exact .r (j := i) rfl hil)) ?_
  refine os_ mv_ ?_
  refine nm_ [2, 7, 9, 10] ?_
  refine CD.seq ?_
  refine CD.seq ?_
  rcases (by omega : pickedF b 4 = 0 ∨ pickedF b 4 = 1 ∨ pickedF b 4 = 2 ∨ pickedF b 4 = 3) with hq | hq | hq | hq
  ·skip
   rw [hq] at hpq
   refine CD.region ?_
   refine os_ mv_ ?_
   refine OD.callP (wants_plain rfl) rfl rfl rfl Try.call12 (hpq) ⟨ot, opd_const, trivial⟩ ?_
   refine OD.wk (Wk.as_ (n := 92) (l' := [(7, _), (9, _), (10, _), (32, _)]) (S' := (⟨b7, 26, 2, [_, _]⟩ :: _ :: (sk ++ (si ++ ((L.eraseIdx i).flatMap bO))))) rfl rfl ⟨lk, lk, lk, lk, trivial⟩) ?_
   refine OD.nil ?_
   refine CD.block ?_
   refine sr_ ?_
   refine os_ bn_ ?_
   refine os_ mv_ ?_
   refine nm_ [7, 9, 10, 32, 42] ?_
   refine CD.cond ot (fun hc1 => ?_) (fun hc1 => ?_)
   ·have hc1' := hc1
    (try simp only [V.cnd, ne_eq] at hc1')
    refine CD.region ?_
    refine os_ mv_ ?_
    refine os_ mv_ ?_
    refine os_ nc_ ?_
    refine os_ (fa_ 4) ?_
    refine OD.storeAt (k := 1) (cs' := List.flatMap gO (L.set i (⟨{ p with next := (i : Int) }, ak, ck, sk, ai, ci, si⟩ : PgO))) (wants_plain rfl) rfl rfl ot rfl rfl ot rfl rfl Try.sizeOf3 rfl (by show 0 + i * 5 + 4 + 1 ≤ (List.flatMap gO L).length; rw [fm_len gO_len]; omega) (by show (L.flatMap gO).set (0 + i * 5 + 4) _ = _; rw [Nat.zero_add]; exact fm_cellset gO_len (c := 4) (by decide) hil (by rw [← ho]; rfl)) ?_
    have hpm : (sk ++ (si ++ ((L.eraseIdx i).flatMap bO))).Perm ((L.set i (⟨{ p with next := (i : Int) }, ak, ck, sk, ai, ci, si⟩ : PgO)).flatMap bO) := by have := (perm_put bO hil (⟨{ p with next := (i : Int) }, ak, ck, sk, ai, ci, si⟩ : PgO)).symm; rw [show bO (⟨{ p with next := (i : Int) }, ak, ck, sk, ai, ci, si⟩ : PgO) = sk ++ si from rfl, List.append_assoc] at this; exact this
    refine OD.perm (S' := ⟨b7, 26, 2, [.v (.slice (some ⟨bx, 0, none⟩) (List.length (L.set i (⟨{ p with next := (i : Int) }, ak, ck, sk, ai, ci, si⟩ : PgO))) cap), .v (.int .i64 (TreeL.root (treeL l)))]⟩ :: (([⟨bx, 44, cap * 5, List.flatMap gO (L.set i (⟨{ p with next := (i : Int) }, ak, ck, sk, ai, ci, si⟩ : PgO))⟩] : List Blk) ++ (L.set i (⟨{ p with next := (i : Int) }, ak, ck, sk, ai, ci, si⟩ : PgO)).flatMap bO)) (by rw [List.length_set]; exact List.Perm.cons _ (List.Perm.cons _ hpm)) ?_
    have hox2 : OwnP (L.set i (⟨{ p with next := (i : Int) }, ak, ck, sk, ai, ci, si⟩ : PgO)) (some ⟨bx, 0, none⟩) cap [⟨bx, 44, cap * 5, List.flatMap gO (L.set i (⟨{ p with next := (i : Int) }, ak, ck, sk, ai, ci, si⟩ : PgO))⟩] := ownL_row (by rw [List.length_set]; exact hxl) hxc
    have hok2 : ∀ o ∈ (L.set i (⟨{ p with next := (i : Int) }, ak, ck, sk, ai, ci, si⟩ : PgO)), okO o := fun x hx => by rcases List.mem_or_eq_of_mem_set hx with hx | rfl; exact hok x hx; exact ⟨hk1, hi1⟩
    have hL2 : (L.set i (⟨{ p with next := (i : Int) }, ak, ck, sk, ai, ci, si⟩ : PgO)).map PgO.p = ((treeL l).set (i : Int) { p with next := (i : Int) }).pages := by rw [List.map_set, hL]; rfl
    have h11 : checkF ((treeL l).set (i : Int) { p with next := (i : Int) }) = 11 := by rw [hpe]; exact bad_next g.val hir
    have hb2 := set_hb (i := (i : Int)) (q := { p with next := (i : Int) }) hhb (by simp only [List.length_append, List.length_cons, List.length_nil]; omega)
    have hcv := check_bad (G := G) h11 hb2
    have hfv := find_bad (G := G) (k := [1]) h11 hb2
    have hiv := insert_bad (G := G) (k := [1]) h11 hb2
    generalize (L.set i (⟨{ p with next := (i : Int) }, ak, ck, sk, ai, ci, si⟩ : PgO)) = L3 at hox2 hok2 hL2 ⊢
    generalize hT2 : (treeL l).set (i : Int) { p with next := (i : Int) } = t2 at hL2 h11 hb2 hcv hfv hiv
    have hrt : (treeL l).root = t2.root := by rw [← hT2]; rfl
    generalize [(⟨bx, 44, cap * 5, List.flatMap gO L3⟩ : Blk)] = Sx3 at hox2 ⊢
    rw [hrt]
    refine OD.wk (Wk.as_ (n := 92) (l' := [(7, _)]) (S' := (⟨b7, 26, 2, [_, _]⟩ :: (Sx3 ++ (List.flatMap bO L3)))) rfl rfl ⟨lk, trivial⟩) ?_
    refine OD.nil ?_
    refine sr_ ?_
    refine os_ (lab_ 0 [_, _]) ?_
    refine OD.bldS (pl := numD 0 [_]) (zvs := [.int .u8 0]) (ds := [_]) (wants_plain rfl) rfl rfl Try.zeroValue5 Try.runUnderlying31 Try.sizeOf5 rfl rfl (by kernel_rfl) ⟨rfl, opd_const, trivial⟩ (by exact rfl) (fill_full (by exact rfl) (by exact rfl) (by exact rfl)) (fun b71 => ?_)
    refine OD.perm (perm_q33 (S3 := [⟨b71, 5, 1 * 1, List.flatMap cB ([1])⟩]) (A := [_])) ?_
    refine OD.giveL (t := 71) (Sq := [⟨b71, 5, 1 * 1, List.flatMap cB ([1])⟩]) lk (ownL_row (g := cB) (sz := 1) (e := 5) (ls := [1]) (Nat.le_refl _) (show 1 ≤ maxLen by decide)) (fm_len cB_len _) (perm_r33 (A := [_])) ?_
    refine OD.look (wants_plain rfl) rfl rfl rfl Try.call18 (hfv) rfl ⟨⟨_, ot, view_Tt hox2 hok2 hL2 (fun B hB => by first | exact List.mem_cons_of_mem _ hB | exact List.mem_cons_of_mem _ (List.mem_cons_of_mem _ hB))⟩, ⟨_, ot, view_same⟩, trivial⟩ ?_
    refine os_ mv_ ?_
    refine os_ ex_ ?_
    refine os_ ex_ ?_
    refine os_ mv_ ?_
    refine os_ mv_ ?_
    refine OD.wk (Wk.as_ (n := 92) (l' := [(7, _), (12, _)]) (S' := (⟨b7, 26, 2, [_, _]⟩ :: (Sx3 ++ (List.flatMap bO L3)))) rfl rfl ⟨lk, lk, trivial⟩) ?_
    refine OD.nil ?_
    refine sr_ ?_
    refine os_ (lab_ 0 [_, _]) ?_
    refine OD.bldS (pl := numD 0 [_]) (zvs := [.int .u8 0]) (ds := [_]) (wants_plain rfl) rfl rfl Try.zeroValue5 Try.runUnderlying31 Try.sizeOf5 rfl rfl (by kernel_rfl) ⟨rfl, opd_const, trivial⟩ (by exact rfl) (fill_full (by exact rfl) (by exact rfl) (by exact rfl)) (fun b77 => ?_)
    refine OD.perm (perm_q33 (S3 := [⟨b77, 5, 1 * 1, List.flatMap cB ([1])⟩]) (A := [_])) ?_
    refine OD.giveL (t := 77) (Sq := [⟨b77, 5, 1 * 1, List.flatMap cB ([1])⟩]) lk (ownL_row (g := cB) (sz := 1) (e := 5) (ls := [1]) (Nat.le_refl _) (show 1 ≤ maxLen by decide)) (fm_len cB_len _) (perm_r33 (A := [_])) ?_
    refine OD.lookC (wants_plain rfl) rfl rfl rfl Try.call14 hiv (fun r S h => FailE.flat h) ⟨⟨_, ot, view_Tt hox2 hok2 hL2 (fun B hB => by first | exact List.mem_cons_of_mem _ hB | exact List.mem_cons_of_mem _ (List.mem_cons_of_mem _ hB))⟩, ⟨_, ot, view_same⟩, ⟨_, opd_const, view_same⟩, trivial⟩ ?_
    rintro _ Sf ⟨ad0, cap0, rfl, _⟩
    refine OD.wk (Wk.drop _ _ _ _ (List.sublist_append_right _ _)) ?_
    refine os_ mv_ ?_
    refine os_ ex_ ?_
    refine os_ ex_ ?_
    refine OD.alloc (ds := [_, _]) (wants_plain rfl) rfl rfl Try.zeroValue26 rfl (fun b13 => ?_)
    refine OD.store (k := 0) (cs' := [_, _]) (wants_plain rfl) rfl rfl ot rfl rfl ot rfl rfl Try.sizeOf26 rfl rfl rfl ?_
    refine os_ mv_ ?_
    refine OD.wk (Wk.as_ (n := 92) (l' := [(7, _), (12, _), (14, _)]) (S' := (⟨b13, 26, 2, [_, _]⟩ :: ⟨b7, 26, 2, [_, _]⟩ :: (Sx3 ++ (List.flatMap bO L3)))) rfl rfl ⟨lk, lk, lk, trivial⟩) ?_
    refine OD.nil ?_
    refine sr_ ?_
    refine os_ (lab_ 1 [_, _]) ?_
    refine OD.look (wants_plain rfl) rfl rfl rfl Try.call19 (hcv) rfl ⟨⟨_, ot, view_Tt hox2 hok2 hL2 (fun B hB => by first | exact List.mem_cons_of_mem _ hB | exact List.mem_cons_of_mem _ (List.mem_cons_of_mem _ hB))⟩, trivial⟩ ?_
    refine os_ bn_ ?_
    refine os_ mv_ ?_
    refine OD.split (t := 84) lk (fun hg84 => ?_) (fun hg84 => ?_)
    ·have hg84' := hg84; (try simp only [V.cnd, ne_eq] at hg84')
     refine os_ mv_ ?_
     refine os_ bn_ ?_
     refine os_ pkT_ ?_
     refine os_ mv_ ?_
     refine OD.split (t := 88) lk (fun hg88 => ?_) (fun hg88 => ?_)
     ·have hg88' := hg88; (try simp only [V.cnd, ne_eq] at hg88')
      refine os_ mv_ ?_
      refine os_ bn_ ?_
      refine os_ pkT_ ?_
      refine os_ mv_ ?_
      refine OD.wk (Wk.as_ (n := 92) (l' := [(6, _)]) (S' := (⟨b13, 26, 2, [_, _]⟩ :: ⟨b7, 26, 2, [_, _]⟩ :: (Sx3 ++ (List.flatMap bO L3)))) rfl rfl ⟨lk, trivial⟩) ?_
      refine OD.nil ?_
      refine CD.ret ?_
      refine ⟨.inr rfl, _, [], List.nil_sublist _, ret_one Try.results4 (res_tmp (Nat.le_of_ble_eq_true rfl) lk), ?_⟩
      exact ⟨rfl, rfl⟩
     ·exact absurd hg88 (by simp at hg88)
    ·exact absurd hg84 (by simp at hg84)
   ·exact absurd hc1 (by simp at hc1)
  ·skip
   rw [hq] at hpq
   refine CD.region ?_
   refine os_ mv_ ?_
   refine OD.callP (wants_plain rfl) rfl rfl rfl Try.call12 (hpq) ⟨ot, opd_const, trivial⟩ ?_
   refine OD.wk (Wk.as_ (n := 92) (l' := [(7, _), (9, _), (10, _), (32, _)]) (S' := (⟨b7, 26, 2, [_, _]⟩ :: _ :: (sk ++ (si ++ ((L.eraseIdx i).flatMap bO))))) rfl rfl ⟨lk, lk, lk, lk, trivial⟩) ?_
   refine OD.nil ?_
   refine CD.block ?_
   refine sr_ ?_
   refine os_ bn_ ?_
   refine os_ mv_ ?_
   refine nm_ [7, 9, 10, 32, 42] ?_
   refine CD.cond ot (fun hc1 => ?_) (fun hc1 => ?_)
   ·exact absurd hc1 (by simp at hc1)
   ·have hc1' := hc1
    (try simp only [V.cnd, ne_eq] at hc1')
    refine sr_ ?_
    refine os_ bn_ ?_
    refine os_ mv_ ?_
    refine nm_ [7, 10, 32, 48] ?_
    refine CD.cond ot (fun hc2 => ?_) (fun hc2 => ?_)
    ·have hc2' := hc2
     (try simp only [V.cnd, ne_eq] at hc2')
     refine CD.region ?_
     refine os_ mv_ ?_
     refine OD.bldS (pl := numD 0 [_, _, _]) (zvs := [.int .u8 0, .int .u8 0, .int .u8 0]) (ds := [_, _, _]) (wants_plain rfl) rfl rfl Try.zeroValue5 Try.runUnderlying31 Try.sizeOf5 rfl rfl (by kernel_rfl) ⟨rfl, opd_const, rfl, opd_const, rfl, opd_const, trivial⟩ (by exact rfl) (fill_full (by exact rfl) (by exact rfl) (by exact rfl)) (fun b51 => ?_)
     refine OD.perm (perm_q44 (S4 := [⟨b51, 5, 3 * 1, List.flatMap cB ([122, 122, 122])⟩]) (A := [_, _])) ?_
     refine os_ mv_ ?_
     refine os_ nc_ ?_
     refine os_ (fa_ 3) ?_
     first | refine OD.still (wants_plain rfl) rfl (still_r1 (mk := Op.load 31) rfl ot (ld_row (k := 1) (j := 3) (d := .list 1 (p.high.flatMap cB) p.high.length) (ls := L) gO_len rfl rfl rfl Try.isAgg31 hil (by rw [← ho]; rfl))) ?_ | refine OD.still (wants_plain rfl) rfl (still_r1 (mk := Op.load 31) rfl ot (ld_row (k := 2) (j := 3) (d := .list 1 (p.high.flatMap cB) p.high.length) (ls := L) gO_len rfl rfl rfl Try.isAgg31 hil (by rw [← ho]; rfl))) ?_
     refine OD.appendAny (ls := ([122, 122, 122])) (new := p.high) (Sq := [⟨b51, 5, 3 * 1, List.flatMap cB ([122, 122, 122])⟩]) cB_len cB_one (wants_plain rfl) rfl rfl Try.underlying31 info5_Twv rfl (by decide) Try.runUnderlying31 Try.sizeOf5 ot (ownL_row (g := cB) (sz := 1) (e := 5) (ls := [122, 122, 122]) (Nat.le_refl _) (show 3 ≤ maxLen by decide)) (perm_r44 (A := [_, _])) ot (by simp; omega) (by simp; omega) (fun ad56 cp56 S56 ho56 => ?_)
     refine OD.perm (perm_q44 (A := [_, _])) ?_
     refine OD.giveL (t := 56) (Sq := S56) lk ho56 (fm_len cB_len _) (perm_r44 (A := [_, _])) ?_
     refine os_ nc_ ?_
     refine os_ (fa_ 3) ?_
     refine OD.storeAt (k := 1) (cs' := List.flatMap gO (L.set i (⟨{ p with high := (([122, 122, 122] : K) ++ p.high) }, ak, ck, sk, ai, ci, si⟩ : PgO))) (wants_plain rfl) rfl rfl ot rfl rfl ot rfl rfl Try.sizeOf31 rfl (by show 0 + i * 5 + 3 + 1 ≤ (List.flatMap gO L).length; rw [fm_len gO_len]; omega) (by show (L.flatMap gO).set (0 + i * 5 + 3) _ = _; rw [Nat.zero_add]; exact fm_cellset gO_len (c := 3) (by decide) hil (by rw [← ho]; rfl)) ?_
     have hpm : (sk ++ (si ++ ((L.eraseIdx i).flatMap bO))).Perm ((L.set i (⟨{ p with high := (([122, 122, 122] : K) ++ p.high) }, ak, ck, sk, ai, ci, si⟩ : PgO)).flatMap bO) := by have := (perm_put bO hil (⟨{ p with high := (([122, 122, 122] : K) ++ p.high) }, ak, ck, sk, ai, ci, si⟩ : PgO)).symm; rw [show bO (⟨{ p with high := (([122, 122, 122] : K) ++ p.high) }, ak, ck, sk, ai, ci, si⟩ : PgO) = sk ++ si from rfl, List.append_assoc] at this; exact this
     refine OD.perm (S' := ⟨b7, 26, 2, [.v (.slice (some ⟨bx, 0, none⟩) (List.length (L.set i (⟨{ p with high := (([122, 122, 122] : K) ++ p.high) }, ak, ck, sk, ai, ci, si⟩ : PgO))) cap), .v (.int .i64 (TreeL.root (treeL l)))]⟩ :: (([⟨bx, 44, cap * 5, List.flatMap gO (L.set i (⟨{ p with high := (([122, 122, 122] : K) ++ p.high) }, ak, ck, sk, ai, ci, si⟩ : PgO))⟩] : List Blk) ++ (L.set i (⟨{ p with high := (([122, 122, 122] : K) ++ p.high) }, ak, ck, sk, ai, ci, si⟩ : PgO)).flatMap bO)) (by rw [List.length_set]; exact List.Perm.cons _ (List.Perm.cons _ hpm)) ?_
     have hox2 : OwnP (L.set i (⟨{ p with high := (([122, 122, 122] : K) ++ p.high) }, ak, ck, sk, ai, ci, si⟩ : PgO)) (some ⟨bx, 0, none⟩) cap [⟨bx, 44, cap * 5, List.flatMap gO (L.set i (⟨{ p with high := (([122, 122, 122] : K) ++ p.high) }, ak, ck, sk, ai, ci, si⟩ : PgO))⟩] := ownL_row (by rw [List.length_set]; exact hxl) hxc
     have hok2 : ∀ o ∈ (L.set i (⟨{ p with high := (([122, 122, 122] : K) ++ p.high) }, ak, ck, sk, ai, ci, si⟩ : PgO)), okO o := fun x hx => by rcases List.mem_or_eq_of_mem_set hx with hx | rfl; exact hok x hx; exact ⟨hk1, hi1⟩
     have hL2 : (L.set i (⟨{ p with high := (([122, 122, 122] : K) ++ p.high) }, ak, ck, sk, ai, ci, si⟩ : PgO)).map PgO.p = ((treeL l).set (i : Int) { p with high := (([122, 122, 122] : K) ++ p.high) }).pages := by rw [List.map_set, hL]; rfl
     have h11 : checkF ((treeL l).set (i : Int) { p with high := (([122, 122, 122] : K) ++ p.high) }) = 11 := by rw [hpe]; exact bad_high g.val hir (q := ([122, 122, 122] : K) ++ ((treeL l).pg (i : Int)).high) (by intro e; have := congrArg List.length e; simp only [List.length_append, List.length_cons, List.length_nil] at this; omega)
     have hb2 := set_hb (i := (i : Int)) (q := { p with high := (([122, 122, 122] : K) ++ p.high) }) hhb (by simp only [List.length_append, List.length_cons, List.length_nil]; omega)
     have hcv := check_bad (G := G) h11 hb2
     have hfv := find_bad (G := G) (k := [1]) h11 hb2
     have hiv := insert_bad (G := G) (k := [1]) h11 hb2
     generalize (L.set i (⟨{ p with high := (([122, 122, 122] : K) ++ p.high) }, ak, ck, sk, ai, ci, si⟩ : PgO)) = L3 at hox2 hok2 hL2 ⊢
     generalize hT2 : (treeL l).set (i : Int) { p with high := (([122, 122, 122] : K) ++ p.high) } = t2 at hL2 h11 hb2 hcv hfv hiv
     have hrt : (treeL l).root = t2.root := by rw [← hT2]; rfl
     generalize [(⟨bx, 44, cap * 5, List.flatMap gO L3⟩ : Blk)] = Sx3 at hox2 ⊢
     rw [hrt]
     refine OD.wk (Wk.as_ (n := 92) (l' := [(7, _)]) (S' := (⟨b7, 26, 2, [_, _]⟩ :: (Sx3 ++ (List.flatMap bO L3)))) rfl rfl ⟨lk, trivial⟩) ?_
     refine OD.nil ?_
     refine sr_ ?_
     refine os_ (lab_ 0 [_, _]) ?_
     refine OD.bldS (pl := numD 0 [_]) (zvs := [.int .u8 0]) (ds := [_]) (wants_plain rfl) rfl rfl Try.zeroValue5 Try.runUnderlying31 Try.sizeOf5 rfl rfl (by kernel_rfl) ⟨rfl, opd_const, trivial⟩ (by exact rfl) (fill_full (by exact rfl) (by exact rfl) (by exact rfl)) (fun b71 => ?_)
     refine OD.perm (perm_q33 (S3 := [⟨b71, 5, 1 * 1, List.flatMap cB ([1])⟩]) (A := [_])) ?_
     refine OD.giveL (t := 71) (Sq := [⟨b71, 5, 1 * 1, List.flatMap cB ([1])⟩]) lk (ownL_row (g := cB) (sz := 1) (e := 5) (ls := [1]) (Nat.le_refl _) (show 1 ≤ maxLen by decide)) (fm_len cB_len _) (perm_r33 (A := [_])) ?_
     refine OD.look (wants_plain rfl) rfl rfl rfl Try.call18 (hfv) rfl ⟨⟨_, ot, view_Tt hox2 hok2 hL2 (fun B hB => by first | exact List.mem_cons_of_mem _ hB | exact List.mem_cons_of_mem _ (List.mem_cons_of_mem _ hB))⟩, ⟨_, ot, view_same⟩, trivial⟩ ?_
     refine os_ mv_ ?_
     refine os_ ex_ ?_
     refine os_ ex_ ?_
     refine os_ mv_ ?_
     refine os_ mv_ ?_
     refine OD.wk (Wk.as_ (n := 92) (l' := [(7, _), (12, _)]) (S' := (⟨b7, 26, 2, [_, _]⟩ :: (Sx3 ++ (List.flatMap bO L3)))) rfl rfl ⟨lk, lk, trivial⟩) ?_
     refine OD.nil ?_
     refine sr_ ?_
     refine os_ (lab_ 0 [_, _]) ?_
     refine OD.bldS (pl := numD 0 [_]) (zvs := [.int .u8 0]) (ds := [_]) (wants_plain rfl) rfl rfl Try.zeroValue5 Try.runUnderlying31 Try.sizeOf5 rfl rfl (by kernel_rfl) ⟨rfl, opd_const, trivial⟩ (by exact rfl) (fill_full (by exact rfl) (by exact rfl) (by exact rfl)) (fun b77 => ?_)
     refine OD.perm (perm_q33 (S3 := [⟨b77, 5, 1 * 1, List.flatMap cB ([1])⟩]) (A := [_])) ?_
     refine OD.giveL (t := 77) (Sq := [⟨b77, 5, 1 * 1, List.flatMap cB ([1])⟩]) lk (ownL_row (g := cB) (sz := 1) (e := 5) (ls := [1]) (Nat.le_refl _) (show 1 ≤ maxLen by decide)) (fm_len cB_len _) (perm_r33 (A := [_])) ?_
     refine OD.lookC (wants_plain rfl) rfl rfl rfl Try.call14 hiv (fun r S h => FailE.flat h) ⟨⟨_, ot, view_Tt hox2 hok2 hL2 (fun B hB => by first | exact List.mem_cons_of_mem _ hB | exact List.mem_cons_of_mem _ (List.mem_cons_of_mem _ hB))⟩, ⟨_, ot, view_same⟩, ⟨_, opd_const, view_same⟩, trivial⟩ ?_
     rintro _ Sf ⟨ad0, cap0, rfl, _⟩
     refine OD.wk (Wk.drop _ _ _ _ (List.sublist_append_right _ _)) ?_
     refine os_ mv_ ?_
     refine os_ ex_ ?_
     refine os_ ex_ ?_
     refine OD.alloc (ds := [_, _]) (wants_plain rfl) rfl rfl Try.zeroValue26 rfl (fun b13 => ?_)
     refine OD.store (k := 0) (cs' := [_, _]) (wants_plain rfl) rfl rfl ot rfl rfl ot rfl rfl Try.sizeOf26 rfl rfl rfl ?_
     refine os_ mv_ ?_
     refine OD.wk (Wk.as_ (n := 92) (l' := [(7, _), (12, _), (14, _)]) (S' := (⟨b13, 26, 2, [_, _]⟩ :: ⟨b7, 26, 2, [_, _]⟩ :: (Sx3 ++ (List.flatMap bO L3)))) rfl rfl ⟨lk, lk, lk, trivial⟩) ?_
     refine OD.nil ?_
     refine sr_ ?_
     refine os_ (lab_ 1 [_, _]) ?_
     refine OD.look (wants_plain rfl) rfl rfl rfl Try.call19 (hcv) rfl ⟨⟨_, ot, view_Tt hox2 hok2 hL2 (fun B hB => by first | exact List.mem_cons_of_mem _ hB | exact List.mem_cons_of_mem _ (List.mem_cons_of_mem _ hB))⟩, trivial⟩ ?_
     refine os_ bn_ ?_
     refine os_ mv_ ?_
     refine OD.split (t := 84) lk (fun hg84 => ?_) (fun hg84 => ?_)
     ·have hg84' := hg84; (try simp only [V.cnd, ne_eq] at hg84')
      refine os_ mv_ ?_
      refine os_ bn_ ?_
      refine os_ pkT_ ?_
      refine os_ mv_ ?_
      refine OD.split (t := 88) lk (fun hg88 => ?_) (fun hg88 => ?_)
      ·have hg88' := hg88; (try simp only [V.cnd, ne_eq] at hg88')
       refine os_ mv_ ?_
       refine os_ bn_ ?_
       refine os_ pkT_ ?_
       refine os_ mv_ ?_
       refine OD.wk (Wk.as_ (n := 92) (l' := [(6, _)]) (S' := (⟨b13, 26, 2, [_, _]⟩ :: ⟨b7, 26, 2, [_, _]⟩ :: (Sx3 ++ (List.flatMap bO L3)))) rfl rfl ⟨lk, trivial⟩) ?_
       refine OD.nil ?_
       refine CD.ret ?_
       refine ⟨.inr rfl, _, [], List.nil_sublist _, ret_one Try.results4 (res_tmp (Nat.le_of_ble_eq_true rfl) lk), ?_⟩
       exact ⟨rfl, rfl⟩
      ·exact absurd hg88 (by simp at hg88)
     ·exact absurd hg84 (by simp at hg84)
    ·exact absurd hc2 (by simp at hc2)
  ·skip
   rw [hq] at hpq
   refine CD.region ?_
   refine os_ mv_ ?_
   refine OD.callP (wants_plain rfl) rfl rfl rfl Try.call12 (hpq) ⟨ot, opd_const, trivial⟩ ?_
   refine OD.wk (Wk.as_ (n := 92) (l' := [(7, _), (9, _), (10, _), (32, _)]) (S' := (⟨b7, 26, 2, [_, _]⟩ :: _ :: (sk ++ (si ++ ((L.eraseIdx i).flatMap bO))))) rfl rfl ⟨lk, lk, lk, lk, trivial⟩) ?_
   refine OD.nil ?_
   refine CD.block ?_
   refine sr_ ?_
   refine os_ bn_ ?_
   refine os_ mv_ ?_
   refine nm_ [7, 9, 10, 32, 42] ?_
   refine CD.cond ot (fun hc1 => ?_) (fun hc1 => ?_)
   ·exact absurd hc1 (by simp at hc1)
   ·have hc1' := hc1
    (try simp only [V.cnd, ne_eq] at hc1')
    refine sr_ ?_
    refine os_ bn_ ?_
    refine os_ mv_ ?_
    refine nm_ [7, 10, 32, 48] ?_
    refine CD.cond ot (fun hc2 => ?_) (fun hc2 => ?_)
    ·exact absurd hc2 (by simp at hc2)
    ·have hc2' := hc2
     (try simp only [V.cnd, ne_eq] at hc2')
     refine sr_ ?_
     refine os_ bn_ ?_
     refine os_ mv_ ?_
     refine nm_ [7, 10, 59] ?_
     refine CD.cond ot (fun hc3 => ?_) (fun hc3 => ?_)
     ·have hc3' := hc3
      (try simp only [V.cnd, ne_eq] at hc3')
      refine CD.region ?_
      refine os_ mv_ ?_
      refine os_ mv_ ?_
      refine os_ nc_ ?_
      refine os_ (fa_ 0) ?_
      first | refine OD.still (wants_plain rfl) rfl (still_r1 (mk := Op.load 4) rfl ot (ld_row0 (k := 1) (d := .v (.bool p.leaf)) (ls := L) gO_len rfl rfl rfl Try.isAgg4 hil (by rw [← ho]; rfl))) ?_ | refine OD.still (wants_plain rfl) rfl (still_r1 (mk := Op.load 4) rfl ot (ld_row0 (k := 2) (d := .v (.bool p.leaf)) (ls := L) gO_len rfl rfl rfl Try.isAgg4 hil (by rw [← ho]; rfl))) ?_
      refine os_ un_ ?_
      refine os_ nc_ ?_
      refine os_ (fa_ 0) ?_
      refine OD.storeAt (k := 1) (cs' := List.flatMap gO (L.set i (⟨{ p with leaf := !p.leaf }, ak, ck, sk, ai, ci, si⟩ : PgO))) (wants_plain rfl) rfl rfl ot rfl rfl ot rfl rfl Try.sizeOf4 rfl (by show 0 + i * 5 + 1 ≤ (List.flatMap gO L).length; rw [fm_len gO_len]; omega) (by show (L.flatMap gO).set (0 + i * 5) _ = _; rw [Nat.zero_add]; exact fm_cellset gO_len (c := 0) (by decide) hil (by rw [← ho]; rfl)) ?_
      have hpm : (sk ++ (si ++ ((L.eraseIdx i).flatMap bO))).Perm ((L.set i (⟨{ p with leaf := !p.leaf }, ak, ck, sk, ai, ci, si⟩ : PgO)).flatMap bO) := by have := (perm_put bO hil (⟨{ p with leaf := !p.leaf }, ak, ck, sk, ai, ci, si⟩ : PgO)).symm; rw [show bO (⟨{ p with leaf := !p.leaf }, ak, ck, sk, ai, ci, si⟩ : PgO) = sk ++ si from rfl, List.append_assoc] at this; exact this
      refine OD.perm (S' := ⟨b7, 26, 2, [.v (.slice (some ⟨bx, 0, none⟩) (List.length (L.set i (⟨{ p with leaf := !p.leaf }, ak, ck, sk, ai, ci, si⟩ : PgO))) cap), .v (.int .i64 (TreeL.root (treeL l)))]⟩ :: (([⟨bx, 44, cap * 5, List.flatMap gO (L.set i (⟨{ p with leaf := !p.leaf }, ak, ck, sk, ai, ci, si⟩ : PgO))⟩] : List Blk) ++ (L.set i (⟨{ p with leaf := !p.leaf }, ak, ck, sk, ai, ci, si⟩ : PgO)).flatMap bO)) (by rw [List.length_set]; exact List.Perm.cons _ (List.Perm.cons _ hpm)) ?_
      have hox2 : OwnP (L.set i (⟨{ p with leaf := !p.leaf }, ak, ck, sk, ai, ci, si⟩ : PgO)) (some ⟨bx, 0, none⟩) cap [⟨bx, 44, cap * 5, List.flatMap gO (L.set i (⟨{ p with leaf := !p.leaf }, ak, ck, sk, ai, ci, si⟩ : PgO))⟩] := ownL_row (by rw [List.length_set]; exact hxl) hxc
      have hok2 : ∀ o ∈ (L.set i (⟨{ p with leaf := !p.leaf }, ak, ck, sk, ai, ci, si⟩ : PgO)), okO o := fun x hx => by rcases List.mem_or_eq_of_mem_set hx with hx | rfl; exact hok x hx; exact ⟨hk1, hi1⟩
      have hL2 : (L.set i (⟨{ p with leaf := !p.leaf }, ak, ck, sk, ai, ci, si⟩ : PgO)).map PgO.p = ((treeL l).set (i : Int) { p with leaf := !p.leaf }).pages := by rw [List.map_set, hL]; rfl
      have h11 : checkF ((treeL l).set (i : Int) { p with leaf := !p.leaf }) = 11 := by rw [hpe]; exact bad_leaf g.val hir
      have hb2 := set_hb (i := (i : Int)) (q := { p with leaf := !p.leaf }) hhb (by simp only [List.length_append, List.length_cons, List.length_nil]; omega)
      have hcv := check_bad (G := G) h11 hb2
      have hfv := find_bad (G := G) (k := [1]) h11 hb2
      have hiv := insert_bad (G := G) (k := [1]) h11 hb2
      generalize (L.set i (⟨{ p with leaf := !p.leaf }, ak, ck, sk, ai, ci, si⟩ : PgO)) = L3 at hox2 hok2 hL2 ⊢
      generalize hT2 : (treeL l).set (i : Int) { p with leaf := !p.leaf } = t2 at hL2 h11 hb2 hcv hfv hiv
      have hrt : (treeL l).root = t2.root := by rw [← hT2]; rfl
      generalize [(⟨bx, 44, cap * 5, List.flatMap gO L3⟩ : Blk)] = Sx3 at hox2 ⊢
      rw [hrt]
      refine OD.wk (Wk.as_ (n := 92) (l' := [(7, _)]) (S' := (⟨b7, 26, 2, [_, _]⟩ :: (Sx3 ++ (List.flatMap bO L3)))) rfl rfl ⟨lk, trivial⟩) ?_
      refine OD.nil ?_
      refine sr_ ?_
      refine os_ (lab_ 0 [_, _]) ?_
      refine OD.bldS (pl := numD 0 [_]) (zvs := [.int .u8 0]) (ds := [_]) (wants_plain rfl) rfl rfl Try.zeroValue5 Try.runUnderlying31 Try.sizeOf5 rfl rfl (by kernel_rfl) ⟨rfl, opd_const, trivial⟩ (by exact rfl) (fill_full (by exact rfl) (by exact rfl) (by exact rfl)) (fun b71 => ?_)
      refine OD.perm (perm_q33 (S3 := [⟨b71, 5, 1 * 1, List.flatMap cB ([1])⟩]) (A := [_])) ?_
      refine OD.giveL (t := 71) (Sq := [⟨b71, 5, 1 * 1, List.flatMap cB ([1])⟩]) lk (ownL_row (g := cB) (sz := 1) (e := 5) (ls := [1]) (Nat.le_refl _) (show 1 ≤ maxLen by decide)) (fm_len cB_len _) (perm_r33 (A := [_])) ?_
      refine OD.look (wants_plain rfl) rfl rfl rfl Try.call18 (hfv) rfl ⟨⟨_, ot, view_Tt hox2 hok2 hL2 (fun B hB => by first | exact List.mem_cons_of_mem _ hB | exact List.mem_cons_of_mem _ (List.mem_cons_of_mem _ hB))⟩, ⟨_, ot, view_same⟩, trivial⟩ ?_
      refine os_ mv_ ?_
      refine os_ ex_ ?_
      refine os_ ex_ ?_
      refine os_ mv_ ?_
      refine os_ mv_ ?_
      refine OD.wk (Wk.as_ (n := 92) (l' := [(7, _), (12, _)]) (S' := (⟨b7, 26, 2, [_, _]⟩ :: (Sx3 ++ (List.flatMap bO L3)))) rfl rfl ⟨lk, lk, trivial⟩) ?_
      refine OD.nil ?_
      refine sr_ ?_
      refine os_ (lab_ 0 [_, _]) ?_
      refine OD.bldS (pl := numD 0 [_]) (zvs := [.int .u8 0]) (ds := [_]) (wants_plain rfl) rfl rfl Try.zeroValue5 Try.runUnderlying31 Try.sizeOf5 rfl rfl (by kernel_rfl) ⟨rfl, opd_const, trivial⟩ (by exact rfl) (fill_full (by exact rfl) (by exact rfl) (by exact rfl)) (fun b77 => ?_)
      refine OD.perm (perm_q33 (S3 := [⟨b77, 5, 1 * 1, List.flatMap cB ([1])⟩]) (A := [_])) ?_
      refine OD.giveL (t := 77) (Sq := [⟨b77, 5, 1 * 1, List.flatMap cB ([1])⟩]) lk (ownL_row (g := cB) (sz := 1) (e := 5) (ls := [1]) (Nat.le_refl _) (show 1 ≤ maxLen by decide)) (fm_len cB_len _) (perm_r33 (A := [_])) ?_
      refine OD.lookC (wants_plain rfl) rfl rfl rfl Try.call14 hiv (fun r S h => FailE.flat h) ⟨⟨_, ot, view_Tt hox2 hok2 hL2 (fun B hB => by first | exact List.mem_cons_of_mem _ hB | exact List.mem_cons_of_mem _ (List.mem_cons_of_mem _ hB))⟩, ⟨_, ot, view_same⟩, ⟨_, opd_const, view_same⟩, trivial⟩ ?_
      rintro _ Sf ⟨ad0, cap0, rfl, _⟩
      refine OD.wk (Wk.drop _ _ _ _ (List.sublist_append_right _ _)) ?_
      refine os_ mv_ ?_
      refine os_ ex_ ?_
      refine os_ ex_ ?_
      refine OD.alloc (ds := [_, _]) (wants_plain rfl) rfl rfl Try.zeroValue26 rfl (fun b13 => ?_)
      refine OD.store (k := 0) (cs' := [_, _]) (wants_plain rfl) rfl rfl ot rfl rfl ot rfl rfl Try.sizeOf26 rfl rfl rfl ?_
      refine os_ mv_ ?_
      refine OD.wk (Wk.as_ (n := 92) (l' := [(7, _), (12, _), (14, _)]) (S' := (⟨b13, 26, 2, [_, _]⟩ :: ⟨b7, 26, 2, [_, _]⟩ :: (Sx3 ++ (List.flatMap bO L3)))) rfl rfl ⟨lk, lk, lk, trivial⟩) ?_
      refine OD.nil ?_
      refine sr_ ?_
      refine os_ (lab_ 1 [_, _]) ?_
      refine OD.look (wants_plain rfl) rfl rfl rfl Try.call19 (hcv) rfl ⟨⟨_, ot, view_Tt hox2 hok2 hL2 (fun B hB => by first | exact List.mem_cons_of_mem _ hB | exact List.mem_cons_of_mem _ (List.mem_cons_of_mem _ hB))⟩, trivial⟩ ?_
      refine os_ bn_ ?_
      refine os_ mv_ ?_
      refine OD.split (t := 84) lk (fun hg84 => ?_) (fun hg84 => ?_)
      ·have hg84' := hg84; (try simp only [V.cnd, ne_eq] at hg84')
       refine os_ mv_ ?_
       refine os_ bn_ ?_
       refine os_ pkT_ ?_
       refine os_ mv_ ?_
       refine OD.split (t := 88) lk (fun hg88 => ?_) (fun hg88 => ?_)
       ·have hg88' := hg88; (try simp only [V.cnd, ne_eq] at hg88')
        refine os_ mv_ ?_
        refine os_ bn_ ?_
        refine os_ pkT_ ?_
        refine os_ mv_ ?_
        refine OD.wk (Wk.as_ (n := 92) (l' := [(6, _)]) (S' := (⟨b13, 26, 2, [_, _]⟩ :: ⟨b7, 26, 2, [_, _]⟩ :: (Sx3 ++ (List.flatMap bO L3)))) rfl rfl ⟨lk, trivial⟩) ?_
        refine OD.nil ?_
        refine CD.ret ?_
        refine ⟨.inr rfl, _, [], List.nil_sublist _, ret_one Try.results4 (res_tmp (Nat.le_of_ble_eq_true rfl) lk), ?_⟩
        exact ⟨rfl, rfl⟩
       ·exact absurd hg88 (by simp at hg88)
      ·exact absurd hg84 (by simp at hg84)
     ·exact absurd hc3 (by simp at hc3)
  ·skip
   rw [hq] at hpq
   refine CD.region ?_
   refine os_ mv_ ?_
   refine OD.callP (wants_plain rfl) rfl rfl rfl Try.call12 (hpq) ⟨ot, opd_const, trivial⟩ ?_
   refine OD.wk (Wk.as_ (n := 92) (l' := [(7, _), (9, _), (10, _), (32, _)]) (S' := (⟨b7, 26, 2, [_, _]⟩ :: _ :: (sk ++ (si ++ ((L.eraseIdx i).flatMap bO))))) rfl rfl ⟨lk, lk, lk, lk, trivial⟩) ?_
   refine OD.nil ?_
   refine CD.block ?_
   refine sr_ ?_
   refine os_ bn_ ?_
   refine os_ mv_ ?_
   refine nm_ [7, 9, 10, 32, 42] ?_
   refine CD.cond ot (fun hc1 => ?_) (fun hc1 => ?_)
   ·exact absurd hc1 (by simp at hc1)
   ·have hc1' := hc1
    (try simp only [V.cnd, ne_eq] at hc1')
    refine sr_ ?_
    refine os_ bn_ ?_
    refine os_ mv_ ?_
    refine nm_ [7, 10, 32, 48] ?_
    refine CD.cond ot (fun hc2 => ?_) (fun hc2 => ?_)
    ·exact absurd hc2 (by simp at hc2)
    ·have hc2' := hc2
     (try simp only [V.cnd, ne_eq] at hc2')
     refine sr_ ?_
     refine os_ bn_ ?_
     refine os_ mv_ ?_
     refine nm_ [7, 10, 59] ?_
     refine CD.cond ot (fun hc3 => ?_) (fun hc3 => ?_)
     ·exact absurd hc3 (by simp at hc3)
     ·have hc3' := hc3
      (try simp only [V.cnd, ne_eq] at hc3')
      refine CD.region ?_
      refine os_ mv_ ?_
      refine os_ mv_ ?_
      refine os_ nc_ ?_
      refine os_ (fa_ 2) ?_
      first | refine OD.still (wants_plain rfl) rfl (still_r1 (mk := Op.load 22) rfl ot (ld_row (k := 1) (j := 2) (d := .v (.slice ai p.kids.length ci)) (ls := L) gO_len rfl rfl rfl Try.isAgg22 hil (by rw [← ho]; rfl))) ?_ | refine OD.still (wants_plain rfl) rfl (still_r1 (mk := Op.load 22) rfl ot (ld_row (k := 2) (j := 2) (d := .v (.slice ai p.kids.length ci)) (ls := L) gO_len rfl rfl rfl Try.isAgg22 hil (by rw [← ho]; rfl))) ?_
      refine OD.bldS (pl := numD 0 [_]) (zvs := [.int .i64 0]) (ds := [_]) (wants_plain rfl) rfl rfl Try.zeroValue3 Try.runUnderlying22 Try.sizeOf3 rfl rfl (by kernel_rfl) ⟨rfl, opd_const, trivial⟩ (by exact rfl) (fill_full (by exact rfl) (by exact rfl) (by exact rfl)) (fun b38 => ?_)
      refine OD.give (k := 0) (t := 38) (sz := 1) (m := 1) rfl lk rfl rfl rfl (Nat.le_refl _) (by decide) ?_
      refine OD.appendG (ls := p.kids) (new := [0]) (Sq := si) cI_len cI_one (wants_plain rfl) rfl rfl Try.underlying22 info3_Twv rfl (by decide) ot hi1 (perm_r23 (A := [_, _])) ot (by simp) (by simp only [maxLen, List.length_cons, List.length_nil] at *; omega) (by simp only [List.length_cons, List.length_nil] at *; omega) (fun b39 cp39 h139 h239 => ?_)
      refine OD.perm (perm_q23 (S2 := [⟨b39, 3, cp39 * 1, List.flatMap cI (p.kids ++ [0])⟩]) (A := [_, _])) ?_
      refine os_ nc_ ?_
      refine os_ (fa_ 2) ?_
      refine OD.storeAt (k := 1) (cs' := List.flatMap gO (L.set i (⟨{ p with kids := p.kids ++ [0] }, ak, ck, sk, (some ⟨b39, 0, none⟩), cp39, [⟨b39, 3, cp39 * 1, List.flatMap cI (p.kids ++ [0])⟩]⟩ : PgO))) (wants_plain rfl) rfl rfl ot rfl rfl ot rfl rfl Try.sizeOf22 rfl (by show 0 + i * 5 + 2 + 1 ≤ (List.flatMap gO L).length; rw [fm_len gO_len]; omega) (by show (L.flatMap gO).set (0 + i * 5 + 2) _ = _; rw [Nat.zero_add]; exact fm_cellset gO_len (c := 2) (by decide) hil (by rw [← ho]; unfold gO; rw [show (⟨{ p with kids := p.kids ++ [0] }, ak, ck, sk, (some ⟨b39, 0, none⟩), cp39, [⟨b39, 3, cp39 * 1, List.flatMap cI (p.kids ++ [0])⟩]⟩ : PgO).p.kids.length = p.kids.length + 1 from List.length_append]; rfl)) ?_
      have hpm : (sk ++ (([⟨b39, 3, cp39 * 1, List.flatMap cI (p.kids ++ [0])⟩] : List Blk) ++ ((L.eraseIdx i).flatMap bO))).Perm ((L.set i (⟨{ p with kids := p.kids ++ [0] }, ak, ck, sk, (some ⟨b39, 0, none⟩), cp39, [⟨b39, 3, cp39 * 1, List.flatMap cI (p.kids ++ [0])⟩]⟩ : PgO)).flatMap bO) := by have := (perm_put bO hil (⟨{ p with kids := p.kids ++ [0] }, ak, ck, sk, (some ⟨b39, 0, none⟩), cp39, [⟨b39, 3, cp39 * 1, List.flatMap cI (p.kids ++ [0])⟩]⟩ : PgO)).symm; rw [show bO (⟨{ p with kids := p.kids ++ [0] }, ak, ck, sk, (some ⟨b39, 0, none⟩), cp39, [⟨b39, 3, cp39 * 1, List.flatMap cI (p.kids ++ [0])⟩]⟩ : PgO) = sk ++ ([⟨b39, 3, cp39 * 1, List.flatMap cI (p.kids ++ [0])⟩] : List Blk) from rfl, List.append_assoc] at this; exact this
      refine OD.perm (S' := ⟨b7, 26, 2, [.v (.slice (some ⟨bx, 0, none⟩) (List.length (L.set i (⟨{ p with kids := p.kids ++ [0] }, ak, ck, sk, (some ⟨b39, 0, none⟩), cp39, [⟨b39, 3, cp39 * 1, List.flatMap cI (p.kids ++ [0])⟩]⟩ : PgO))) cap), .v (.int .i64 (TreeL.root (treeL l)))]⟩ :: (([⟨bx, 44, cap * 5, List.flatMap gO (L.set i (⟨{ p with kids := p.kids ++ [0] }, ak, ck, sk, (some ⟨b39, 0, none⟩), cp39, [⟨b39, 3, cp39 * 1, List.flatMap cI (p.kids ++ [0])⟩]⟩ : PgO))⟩] : List Blk) ++ (L.set i (⟨{ p with kids := p.kids ++ [0] }, ak, ck, sk, (some ⟨b39, 0, none⟩), cp39, [⟨b39, 3, cp39 * 1, List.flatMap cI (p.kids ++ [0])⟩]⟩ : PgO)).flatMap bO)) (by rw [List.length_set]; exact List.Perm.cons _ (List.Perm.cons _ hpm)) ?_
      have hox2 : OwnP (L.set i (⟨{ p with kids := p.kids ++ [0] }, ak, ck, sk, (some ⟨b39, 0, none⟩), cp39, [⟨b39, 3, cp39 * 1, List.flatMap cI (p.kids ++ [0])⟩]⟩ : PgO)) (some ⟨bx, 0, none⟩) cap [⟨bx, 44, cap * 5, List.flatMap gO (L.set i (⟨{ p with kids := p.kids ++ [0] }, ak, ck, sk, (some ⟨b39, 0, none⟩), cp39, [⟨b39, 3, cp39 * 1, List.flatMap cI (p.kids ++ [0])⟩]⟩ : PgO))⟩] := ownL_row (by rw [List.length_set]; exact hxl) hxc
      have hok2 : ∀ o ∈ (L.set i (⟨{ p with kids := p.kids ++ [0] }, ak, ck, sk, (some ⟨b39, 0, none⟩), cp39, [⟨b39, 3, cp39 * 1, List.flatMap cI (p.kids ++ [0])⟩]⟩ : PgO)), okO o := fun x hx => by rcases List.mem_or_eq_of_mem_set hx with hx | rfl; exact hok x hx; exact ⟨hk1, ownL_row h139 h239⟩
      have hL2 : (L.set i (⟨{ p with kids := p.kids ++ [0] }, ak, ck, sk, (some ⟨b39, 0, none⟩), cp39, [⟨b39, 3, cp39 * 1, List.flatMap cI (p.kids ++ [0])⟩]⟩ : PgO)).map PgO.p = ((treeL l).set (i : Int) { p with kids := p.kids ++ [0] }).pages := by rw [List.map_set, hL]; rfl
      have h11 : checkF ((treeL l).set (i : Int) { p with kids := p.kids ++ [0] }) = 11 := by rw [hpe]; exact bad_kids g.val hir
      have hb2 := set_hb (i := (i : Int)) (q := { p with kids := p.kids ++ [0] }) hhb (by simp only [List.length_append, List.length_cons, List.length_nil]; omega)
      have hcv := check_bad (G := G) h11 hb2
      have hfv := find_bad (G := G) (k := [1]) h11 hb2
      have hiv := insert_bad (G := G) (k := [1]) h11 hb2
      generalize (L.set i (⟨{ p with kids := p.kids ++ [0] }, ak, ck, sk, (some ⟨b39, 0, none⟩), cp39, [⟨b39, 3, cp39 * 1, List.flatMap cI (p.kids ++ [0])⟩]⟩ : PgO)) = L3 at hox2 hok2 hL2 ⊢
      generalize hT2 : (treeL l).set (i : Int) { p with kids := p.kids ++ [0] } = t2 at hL2 h11 hb2 hcv hfv hiv
      have hrt : (treeL l).root = t2.root := by rw [← hT2]; rfl
      generalize [(⟨bx, 44, cap * 5, List.flatMap gO L3⟩ : Blk)] = Sx3 at hox2 ⊢
      rw [hrt]
      refine OD.wk (Wk.as_ (n := 92) (l' := [(7, _)]) (S' := (⟨b7, 26, 2, [_, _]⟩ :: (Sx3 ++ (List.flatMap bO L3)))) rfl rfl ⟨lk, trivial⟩) ?_
      refine OD.nil ?_
      refine sr_ ?_
      refine os_ (lab_ 0 [_, _]) ?_
      refine OD.bldS (pl := numD 0 [_]) (zvs := [.int .u8 0]) (ds := [_]) (wants_plain rfl) rfl rfl Try.zeroValue5 Try.runUnderlying31 Try.sizeOf5 rfl rfl (by kernel_rfl) ⟨rfl, opd_const, trivial⟩ (by exact rfl) (fill_full (by exact rfl) (by exact rfl) (by exact rfl)) (fun b71 => ?_)
      refine OD.perm (perm_q33 (S3 := [⟨b71, 5, 1 * 1, List.flatMap cB ([1])⟩]) (A := [_])) ?_
      refine OD.giveL (t := 71) (Sq := [⟨b71, 5, 1 * 1, List.flatMap cB ([1])⟩]) lk (ownL_row (g := cB) (sz := 1) (e := 5) (ls := [1]) (Nat.le_refl _) (show 1 ≤ maxLen by decide)) (fm_len cB_len _) (perm_r33 (A := [_])) ?_
      refine OD.look (wants_plain rfl) rfl rfl rfl Try.call18 (hfv) rfl ⟨⟨_, ot, view_Tt hox2 hok2 hL2 (fun B hB => by first | exact List.mem_cons_of_mem _ hB | exact List.mem_cons_of_mem _ (List.mem_cons_of_mem _ hB))⟩, ⟨_, ot, view_same⟩, trivial⟩ ?_
      refine os_ mv_ ?_
      refine os_ ex_ ?_
      refine os_ ex_ ?_
      refine os_ mv_ ?_
      refine os_ mv_ ?_
      refine OD.wk (Wk.as_ (n := 92) (l' := [(7, _), (12, _)]) (S' := (⟨b7, 26, 2, [_, _]⟩ :: (Sx3 ++ (List.flatMap bO L3)))) rfl rfl ⟨lk, lk, trivial⟩) ?_
      refine OD.nil ?_
      refine sr_ ?_
      refine os_ (lab_ 0 [_, _]) ?_
      refine OD.bldS (pl := numD 0 [_]) (zvs := [.int .u8 0]) (ds := [_]) (wants_plain rfl) rfl rfl Try.zeroValue5 Try.runUnderlying31 Try.sizeOf5 rfl rfl (by kernel_rfl) ⟨rfl, opd_const, trivial⟩ (by exact rfl) (fill_full (by exact rfl) (by exact rfl) (by exact rfl)) (fun b77 => ?_)
      refine OD.perm (perm_q33 (S3 := [⟨b77, 5, 1 * 1, List.flatMap cB ([1])⟩]) (A := [_])) ?_
      refine OD.giveL (t := 77) (Sq := [⟨b77, 5, 1 * 1, List.flatMap cB ([1])⟩]) lk (ownL_row (g := cB) (sz := 1) (e := 5) (ls := [1]) (Nat.le_refl _) (show 1 ≤ maxLen by decide)) (fm_len cB_len _) (perm_r33 (A := [_])) ?_
      refine OD.lookC (wants_plain rfl) rfl rfl rfl Try.call14 hiv (fun r S h => FailE.flat h) ⟨⟨_, ot, view_Tt hox2 hok2 hL2 (fun B hB => by first | exact List.mem_cons_of_mem _ hB | exact List.mem_cons_of_mem _ (List.mem_cons_of_mem _ hB))⟩, ⟨_, ot, view_same⟩, ⟨_, opd_const, view_same⟩, trivial⟩ ?_
      rintro _ Sf ⟨ad0, cap0, rfl, _⟩
      refine OD.wk (Wk.drop _ _ _ _ (List.sublist_append_right _ _)) ?_
      refine os_ mv_ ?_
      refine os_ ex_ ?_
      refine os_ ex_ ?_
      refine OD.alloc (ds := [_, _]) (wants_plain rfl) rfl rfl Try.zeroValue26 rfl (fun b13 => ?_)
      refine OD.store (k := 0) (cs' := [_, _]) (wants_plain rfl) rfl rfl ot rfl rfl ot rfl rfl Try.sizeOf26 rfl rfl rfl ?_
      refine os_ mv_ ?_
      refine OD.wk (Wk.as_ (n := 92) (l' := [(7, _), (12, _), (14, _)]) (S' := (⟨b13, 26, 2, [_, _]⟩ :: ⟨b7, 26, 2, [_, _]⟩ :: (Sx3 ++ (List.flatMap bO L3)))) rfl rfl ⟨lk, lk, lk, trivial⟩) ?_
      refine OD.nil ?_
      refine sr_ ?_
      refine os_ (lab_ 1 [_, _]) ?_
      refine OD.look (wants_plain rfl) rfl rfl rfl Try.call19 (hcv) rfl ⟨⟨_, ot, view_Tt hox2 hok2 hL2 (fun B hB => by first | exact List.mem_cons_of_mem _ hB | exact List.mem_cons_of_mem _ (List.mem_cons_of_mem _ hB))⟩, trivial⟩ ?_
      refine os_ bn_ ?_
      refine os_ mv_ ?_
      refine OD.split (t := 84) lk (fun hg84 => ?_) (fun hg84 => ?_)
      ·have hg84' := hg84; (try simp only [V.cnd, ne_eq] at hg84')
       refine os_ mv_ ?_
       refine os_ bn_ ?_
       refine os_ pkT_ ?_
       refine os_ mv_ ?_
       refine OD.split (t := 88) lk (fun hg88 => ?_) (fun hg88 => ?_)
       ·have hg88' := hg88; (try simp only [V.cnd, ne_eq] at hg88')
        refine os_ mv_ ?_
        refine os_ bn_ ?_
        refine os_ pkT_ ?_
        refine os_ mv_ ?_
        refine OD.wk (Wk.as_ (n := 92) (l' := [(6, _)]) (S' := (⟨b13, 26, 2, [_, _]⟩ :: ⟨b7, 26, 2, [_, _]⟩ :: (Sx3 ++ (List.flatMap bO L3)))) rfl rfl ⟨lk, trivial⟩) ?_
        refine OD.nil ?_
        refine CD.ret ?_
        refine ⟨.inr rfl, _, [], List.nil_sublist _, ret_one Try.results4 (res_tmp (Nat.le_of_ble_eq_true rfl) lk), ?_⟩
        exact ⟨rfl, rfl⟩
       ·exact absurd hg88 (by simp at hg88)
      ·exact absurd hg84 (by simp at hg84)

theorem walkTreeBad (l : List Int) (v : Value) (ok : l.length ≤ maxLen ∧ WfI l) (a0 : Int) (wa0 : (Lit.int .i64 a0).wf = true) (a1 : Int) (wa1 : (Lit.int .i64 a1).wf = true) (w : World) (hv : Rep w (fun _ => False) (.list 1 (l.flatMap cI) l.length) v) : Calls Try.prog 4 #[v, .int .i64 a0, .int .i64 a1] w fun e w' => e = .returned (.bool true) ∧ Below w.heap.size w w' :=
 (bad_law (G := []) l ok.1 ok.2 a0 (wf_bd wa0).1 (wf_bd wa0).2 a1 (wf_bd wa1).1 (wf_bd wa1).2).runL (fun g hg => by cases hg) (vs := [v, .int .i64 a0, .int .i64 a1]) (RepL.cons hv (RepL.vs w _ [_, _]))

end Go.Proofs.Ythnobhekodiciaa.Tw
