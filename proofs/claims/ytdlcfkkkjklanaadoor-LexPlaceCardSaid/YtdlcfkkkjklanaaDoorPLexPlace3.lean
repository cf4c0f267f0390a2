/-
  What the proof of LexPlace leans on, part 3 of 3: walks of the program's functions at the level of values, and plain facts of what they compute.
-/
import Derived.Test.YtdlcfkkkjklanaaDoorPLexPlace2
namespace Go.Proofs.YtdlcfkkkjklanaaDoor.Lx
open Go.RowKit V Go.Proofs.YtdlcfkkkjklanaaDoor.Nm Go.Proofs.YtdlcfkkkjklanaaDoor.Pk
set_option linter.unusedVariables false
set_option linter.unusedSimpArgs false

/-- Nothing, or a byte that is not so. -/
def Ends (p : UInt8 → Bool) (r : List UInt8) : Prop := ∀ c r', r = c :: r' → p c = false
theorem tw_ends {p : UInt8 → Bool} {u r : List UInt8} (hu : ∀ c ∈ u, p c = true) (hr : Ends p r) : (u ++ r).takeWhile p = u := by
  rw [List.takeWhile_append_of_pos hu]
  cases r with
  | nil => simp
  | cons c r' => rw [List.takeWhile_cons, hr c r' rfl]; simp
theorem dw_ends {p : UInt8 → Bool} {u r : List UInt8} (hu : ∀ c ∈ u, p c = true) (hr : Ends p r) : (u ++ r).dropWhile p = r := by
  have h1 := List.takeWhile_append_dropWhile (p := p) (l := u ++ r)
  rw [tw_ends hu hr] at h1
  exact List.append_cancel_left h1
theorem one_word_l {u r : List UInt8} (h0 : letterB (u.getD 0 0) = true) (hn : u ≠ []) (hu : ∀ c ∈ u, wordB c = true) (hr : Ends wordB r) : oneF (u ++ r) = (⟨1, ⟨u.toArray⟩, 0⟩, u.length, 0) := by
  have hh : (u ++ r).getD 0 0 = u.getD 0 0 := by cases u with | nil => exact absurd rfl hn | cons a t => rfl
  unfold oneF
  rw [hh, if_pos h0, tw_ends hu hr]
theorem digit_letter {c : UInt8} (h : digitB c = true) : letterB c = false := by
  unfold digitB at h; unfold letterB
  simp only [decide_eq_true_eq, decide_eq_false_iff_not] at *
  omega
theorem one_num_l {d r : List UInt8} {v : Int} (hn : d ≠ []) (hd : ∀ c ∈ d, digitB c = true) (hr : Ends wordB r) (hv : Lib.atoiAll d = .ok v) : oneF (d ++ r) = (⟨2, ⟨#[]⟩, v⟩, d.length, 0) := by
  have hr1 : Ends digitB r := fun c r' e => by have := hr c r' e; unfold wordB at this; simp at this; exact this.2
  have h0 : digitB ((d ++ r).getD 0 0) = true := by cases d with | nil => exact absurd rfl hn | cons a t => exact hd a List.mem_cons_self
  have ha : afterL (d ++ r) = false := by
    unfold afterL
    rw [dw_ends hd hr1]
    cases r with
    | nil => rfl
    | cons c r' => have := hr c r' rfl; unfold wordB at this; simp at this; exact this.1
  unfold oneF
  rw [if_neg (by rw [digit_letter h0]; simp), if_pos h0, if_neg (by rw [ha]; simp)]
  unfold numL
  rw [tw_ends hd hr1, hv]
theorem letter_blank {c : UInt8} (h : letterB c = true) : blankB c = false := by
  unfold letterB at h; unfold blankB
  simp only [decide_eq_true_eq, decide_eq_false_iff_not] at *
  omega
theorem digit_blank {c : UInt8} (h : digitB c = true) : blankB c = false := by
  unfold digitB at h; unfold blankB
  simp only [decide_eq_true_eq, decide_eq_false_iff_not] at *
  omega
theorem ends_nil (p : UInt8 → Bool) : Ends p [] := fun c r e => by cases e

/-! ### LexWords -/
theorem wb_letter (c : UInt8) : letterB (wb c) = true := by
  have := wb_nat c
  have h2 : c.toNat % 26 < 26 := Nat.mod_lt _ (by decide)
  unfold letterB
  rw [this]
  simp only [decide_eq_true_eq]
  omega
theorem word_letters (s : ByteArray) : (∀ c ∈ wordL s, letterB c = true) ∧ wordL s ≠ [] ∧ (wordL s).length ≤ 6 := by
  unfold wordL
  split
  · exact ⟨by decide, by decide, by decide⟩
  · rename_i h
    refine ⟨fun c hc => ?_, fun e => ?_, ?_⟩
    · obtain ⟨x, _, rfl⟩ := List.mem_map.1 hc; exact wb_letter x
    · have e2 := congrArg List.length e
      rw [List.length_map, List.length_take, str_len] at e2
      simp only [List.length_nil] at e2
      omega
    · rw [List.length_map, List.length_take]; omega
theorem hd_getD {p : UInt8 → Bool} {u : List UInt8} (hu : ∀ c ∈ u, p c = true) (hn : u ≠ []) : p (u.getD 0 0) = true := by cases u with | nil => exact absurd rfl hn | cons a t => exact hu a List.mem_cons_self
variable {G : List (Nat × List Value)}

theorem cat_size (a b : ByteArray) : (a ++ b).size = a.size + b.size := by rw [← str_len, Go.Joins.data_append, List.length_append, str_len, str_len]
end Go.Proofs.YtdlcfkkkjklanaaDoor.Lx

namespace Go.Proofs.YtdlcfkkkjklanaaDoor.V
open Go.RowKit
set_option linter.unusedVariables false
set_option linter.unusedSimpArgs false

variable {P : Program} {G : List (Nat × List Value)} {x : St} {o : Oper} {C : Ctx} {S : List Blk} {Q : Exit → St → Prop} {ops : Array Oper} {l : List Oper}

theorem bin_ptrNil {t : TypeId} {p : Option Addr} (h : P.underlying t = some (.pointer (P.pointee t))) : BinOK P .eql t (.pointer p) (.pointer none) (.bool p.isNone) := fun y z w => by
  simp only [eqGuard, Sem.run_bind]
  have := run_eql_pointer_nil (P := P) w t p h
  simp only [Bool.not_eq_true', Sem.run_pure, Result.andThen_ok]
  simpa using this
theorem bin_ptrSame {tp te : TypeId} {a : Addr} (hp : P.underlying tp = some (.pointer te)) (hte : (P.info? te).isSome = true) : BinOK P .neq tp (.pointer (some a)) (.pointer (some a)) (.bool false) := fun y z w => by
  obtain ⟨j, hj⟩ := Option.isSome_iff_exists.1 hte
  simp only [eqGuard, Sem.run_bind]
  have := Go.Lib.run_neq_ptr_same (P := P) w a hp hj
  simp only [Bool.not_eq_true', Sem.run_pure, Result.andThen_ok]
  simpa using this

theorem still_toUnsafe {src dst t : TypeId} {k b o' : Nat} {B : Blk} {y : Operand} (ho : o.op = .convert src dst y) (hy : opd x y = .v (.pointer (some ⟨b, o', none⟩))) (hk : x.S[k]? = some B) (hb : B.b = b)
    (hs : P.underlying src = some (.pointer t)) (hd : P.underlying dst = some .unsafePointer) (ht : (P.info? t).map (fun j => decide (j.size ≠ 0)) = some true) (hoff : o' < B.size) (hne : isMap B.e = false := by rfl) : Still P G x o (.blk k) (.v (.pointer (some ⟨b, o', none⟩))) := fun C a w _ h => by
  obtain ⟨_, cur, h1, h2, h3, h4⟩ := h.blk hk
  rw [ob_cells hne] at h1
  obtain ⟨j, hj, hj0⟩ : ∃ j, P.info? t = some j ∧ j.size ≠ 0 := by
    cases hi : P.info? t with
    | none => rw [hi] at ht; cases ht
    | some j => rw [hi] at ht; exact ⟨j, rfl, by simpa using ht⟩
  refine ⟨_, .v _, fun w' hw => ?_⟩
  have hh : w'.heap[B.b]? = _ := (hw B hk).trans h1
  have := Go.Lib.run_to_unsafe (P := P) w' (cells := cur.size) (e := B.e) ⟨b, o', none⟩ hs hd hj hj0 (by subst hb; simp [World.shape?, hh]) (by show o' < cur.size; omega)
  unfold execOp
  simp only [ho, h.flat hy, Sem.run_bind, this, Result.andThen_ok, Sem.run_pure]
theorem still_fromUnsafe {src dst u e : TypeId} {k b o' n : Nat} {B : Blk} {y : Operand} (ho : o.op = .convert src dst y) (hy : opd x y = .v (.pointer (some ⟨b, o', none⟩))) (hk : x.S[k]? = some B) (hb : B.b = b) (he : B.e = e) (hn : B.size = n)
    (hs : P.underlying src = some .unsafePointer) (hd : P.underlying dst = some (.pointer u)) (hu : (P.info? u).isSome = true) (hl : liesAt P P.depth e (n / P.cellsOf e) o' u 1 = true) (hne : isMap B.e = false := by rfl) : Still P G x o (.blk k) (.v (.pointer (some ⟨b, o', none⟩))) := fun C a w _ h => by
  obtain ⟨_, cur, h1, h2, h3, h4⟩ := h.blk hk
  rw [ob_cells hne] at h1
  obtain ⟨j, hj⟩ := Option.isSome_iff_exists.1 hu
  refine ⟨_, .v _, fun w' hw => ?_⟩
  have hh : w'.heap[B.b]? = _ := (hw B hk).trans h1
  subst he hn
  have := Go.Lib.run_from_unsafe (P := P) w' (cells := cur.size) (e := B.e) ⟨b, o', none⟩ hs hd hj (by subst hb; simp [World.shape?, hh]) (by rw [h2]; exact hl)
  unfold execOp
  simp only [ho, h.flat hy, Sem.run_bind, this, Result.andThen_ok, Sem.run_pure]
theorem still_extern1 {f : FuncId} {y : Operand} {u v : Value} {ts : Array TypeId} (ho : o.op = .call { callee := .value (.func f), args := #[y], argTypes := ts }) (hy : opd x y = .v u)
    (hc : ∀ w, (callFunc f #[u]).run P w = .ok (.value v) w) : Still P G x o .none (.v v) := fun C a w _ h => by
  refine ⟨v, .v _, fun w' _ => ?_⟩
  unfold execOp
  simp only [ho, resolve, Act.eval, Deferred.ofValue, Sem.run_bind, Sem.run_pure, Result.andThen_ok, invoke]
  simp [h.flat hy, hc]

/-- The same, where it is kept that just the blocks of the arguments are owned at first. -/
theorem VC.bodyS {G : List (Nat × List Value)} {f : FuncId} {fn : Func} {c : Code} {n : Nat} {args : List D} {S : List Blk} {post : D → List Blk → Prop} (hf : P.funcs[f]? = some fn) (hb : fn.body = some c) (hn : fn.ntmps = n) (hl : args.length ≤ n)
    (h : ∀ X w0 S0, S0 = bks S → CD P ⟨X, w0, S0, G⟩ c ⟨n, envOf 0 args, S⟩ (Body P fn post)) : VC P G f args S post := fun X w vs hp => by
  have hvl : vs.length = args.length := hp.args.1
  let C : Ctx := ⟨X, w, bks S, G⟩
  have hsim : Sim C ⟨n, envOf 0 args, S⟩ { tmps := vs.toArray ++ Array.replicate (fn.ntmps - vs.toArray.size) undef, defers := [] } w := by
    refine ⟨rfl, by simp [hn]; omega, fun t ht => ?_, hp.own, Fr.refl _ _, hp.ex, hp.tab⟩
    simp only [look_envOf, Nat.zero_le, if_true, Nat.sub_zero]
    by_cases hlt : t < args.length
    · have e1 : args.getD t .junk = args[t] := by simp [List.getD, hlt]
      have e2 : (vs.toArray ++ Array.replicate (fn.ntmps - vs.toArray.size) undef).getD t undef = vs[t]'(by omega) := by
        rw [Array.getD_eq_getD_getElem?, Array.getElem?_append_left (by simp; omega)]
        simp [show t < vs.length by omega]
      rw [e1, e2]
      exact hp.args.2 t hlt (by omega)
    · have e1 : args.getD t .junk = .junk := by simp [List.getD, List.getElem?_eq_none (show args.length ≤ t by omega)]
      rw [e1]; exact .junk _
  refine calls_of_wp hf hb (wp_mono (h _ _ _ rfl _ _ hsim) fun e a w' ⟨y, h1, h2, r, S', h3, h4, h5⟩ => ?_)
  obtain ⟨v, q1, q2⟩ := h4 C a w' h1
  have hsub : (bks S').Sublist (bks y.S) := List.Sublist.map _ h3
  have key : a.defers = [] ∧ ∃ v, (results fn a.tmps).run P w' = .ok v w' ∧ ∃ v' r S', Ending.returned v = .returned v' ∧ post r S' ∧ Own w' (live X S') S' ∧ Rep w' (live X S') r v' ∧ Fr w (bks S) w' (bks S') :=
    ⟨h1.defers, v, q2, v, r, S', rfl, h5, h1.own.sub h3, q1.mono fun b _ hn => ⟨rfl, fun hl => hn (hl.imp id fun q => hsub.subset q)⟩,
      ⟨h1.fr.os, h1.fr.tape, h1.fr.output, h1.fr.size, fun b hb' hn => ⟨(h1.fr.block b hb' hn).1, fun q => (h1.fr.block b hb' hn).2 (hsub.subset q)⟩⟩⟩
  rcases h2 with rfl | rfl <;> exact key

/-- A builder's own block. -/
def bldB (T b : Nat) (p : Option Addr) (ad : Option Addr) (n cap : Nat) : Blk := ⟨b, T, 2, [.v (.pointer p), .v (.slice ad n cap)]⟩

/-- strings.Builder.String, at the end of a function that owns nothing that came in: all else is let go. -/
theorem OD.bldString {T e f t b n cap : Nat} {p ad : Option Addr} {y : Operand} {ts : Array TypeId} {bs : List UInt8} {Sq R : List Blk} (hw : Wants ops x o true) (ho : o.op = .call { callee := .value (.func f), args := #[y], argTypes := ts }) (hd : o.dst = some t)
    (hcall : ∀ args w, (callFunc f args).run P w = .ok (.enter f args) w) (hS0 : C.S0 = []) (hy : opd x y = .v (.pointer (some ⟨b, 0, none⟩))) (hp : x.S.Perm (bldB T b p ad n cap :: (Sq ++ R))) (hpp : p = none ∨ p = some ⟨b, 0, none⟩) (ho' : OwnL e 1 (bs.flatMap cB) n ad cap Sq) (hl : bs.length = n)
    (hst : ∀ (B : Nat) (w : World), Go.Lib.IsBuilderF T e B b (Go.Lib.byteCells bs) w → B ≤ w.heap.size → Calls P f #[.pointer (some ⟨b, 0, none⟩)] w fun ex w' => ex = .returned (.string ⟨bs.toArray⟩) ∧ Below B w w')
    (hT : isMap T = false) (hE : isMap e = false) (K : OD P C ops l ⟨x.n, [(t, .v (.string ⟨bs.toArray⟩))], []⟩ Q) : OD P C ops (o :: l) x Q := fun a w h0 => by
  have h := Wk.perm (n := x.n) (env := x.env) hp C a w h0
  unfold wpList
  rw [if_pos (hw C a w h0)]
  refine .inl ?_
  have hrun : (execOp a.eval o).run P w = .ok (.enter f #[.pointer (some ⟨b, 0, none⟩)]) w := by
    unfold execOp
    simp only [ho, resolve, Act.eval, Deferred.ofValue, Sem.run_bind, Sem.run_pure, Result.andThen_ok, invoke]
    simp [h0.flat hy, hcall]
  have hsz := h.fr.size
  have hge : ∀ c, c ∈ bks (bldB T b p ad n cap :: (Sq ++ R)) → C.w0.heap.size ≤ c := fun c hc => by
    rcases Nat.lt_or_ge c C.w0.heap.size with hlt | hge
    · exact absurd hc (h.fr.block c hlt (by rw [hS0]; simp)).2
    · exact hge
  have hB : Go.Lib.IsBuilderF T e C.w0.heap.size b (Go.Lib.byteCells bs) w := by
    obtain ⟨r0, cur, r1, r2, r3, r4⟩ := h.own.at_ _ List.mem_cons_self
    rw [ob_cells (show isMap (bldB T b p ad n cap).e = false from hT)] at r1
    have r2 : cur.size = 2 := r2
    obtain ⟨u0, g0, q0⟩ := r4 0 (show 0 < 2 by decide)
    obtain ⟨u1, g1, q1⟩ := r4 1 (show 1 < 2 by decide)
    have e0 : u0 = .pointer p := q0.v_eq
    have e1 : u1 = .slice ad n cap := q1.v_eq
    subst e0 e1
    have hcur : cur = #[.pointer p, .slice ad n cap] := by
      apply Array.ext (by simp [r2])
      intro i i1 i2
      rcases i with _ | _ | i
      · exact (Array.getElem?_eq_some_iff.1 g0).2
      · exact (Array.getElem?_eq_some_iff.1 g1).2
      · simp at i2; omega
    have hown : w.ownsRow C.w0.heap.size e 1 (.slice ad n cap) (Go.Lib.byteCells bs).length (Go.Lib.byteCells bs) ∧ (Value.slice ad n cap).ownBlock ≠ some b := by
      have hbl : (Go.Lib.byteCells bs).length = n := by simp [Go.Lib.byteCells, hl]
      rcases ho' with ⟨z1, z2, z3, z4, z5⟩ | ⟨g, z1, z2, z3, z4⟩
      · have hb0 : bs = [] := List.eq_nil_of_length_eq_zero (by omega)
        subst z1 z3 z4 hb0
        exact ⟨⟨by simp [Go.Lib.byteCells], .inl ⟨rfl, rfl⟩⟩, by simp [Value.ownBlock]⟩
      · subst z1
        have hm : (⟨g, e, cap * 1, bs.flatMap cB⟩ : Blk) ∈ bldB T b p (some ⟨g, 0, none⟩) n cap :: (Sq ++ R) := List.mem_cons_of_mem _ (List.mem_append_left _ (by rw [z4]; exact List.mem_cons_self))
        obtain ⟨s0, cur2, s1, s2, s3, s4⟩ := h.own.at_ _ hm
        rw [ob_cells (show isMap (⟨g, e, cap * 1, bs.flatMap cB⟩ : Blk).e = false from hE)] at s1
        have hgb : g ≠ b := fun e' => by
          have hnd := h.own.apart
          rw [z4] at hnd
          subst e'
          exact (List.nodup_cons.1 hnd).1 (by simp [bks, bldB])
        have hfl : (bs.flatMap cB).length = bs.length := by rw [fm_len cB_len, Nat.mul_one]
        have s2 : cur2.size = cap * 1 := s2
        refine ⟨⟨by omega, .inr ⟨g, cap, cur2, by rw [hbl], hge g (List.mem_map.2 ⟨_, hm, rfl⟩), s1, by omega, z3, s2, ?_⟩⟩, by simp [Value.ownBlock]; exact hgb⟩
        rw [hbl, Nat.mul_one]
        apply List.ext_getElem (by simp [Go.Lib.byteCells]; omega)
        intro i i1 i2
        have hi : i < bs.length := by simp [Go.Lib.byteCells] at i2; exact i2
        obtain ⟨u, hu, hq⟩ := s4 i (by show i < (bs.flatMap cB).length; omega)
        have ec : (bs.flatMap cB)[i]'(by omega) = .v (.int .u8 (bs[i].toNat : Int)) := by
          have := fm_cell0 cB_len (ls := bs) (i := i) (d := .v (.int .u8 (bs[i].toNat : Int))) hi rfl
          rw [Nat.mul_one, List.getElem?_eq_getElem (by omega)] at this
          exact Option.some.inj this
        have hq : Rep w _ ((bs.flatMap cB)[i]'(by omega)) u := hq
        rw [ec] at hq
        have := hq.v_eq
        subst this
        rw [List.getElem_take]
        simp only [Go.Lib.byteCells, List.getElem_map]
        rw [← Array.getElem?_toList, List.getElem?_eq_some_iff] at hu
        exact hu.2
    have hBA : Go.Lib.BuilderAtF T e C.w0.heap.size b (.pointer p) (Go.Lib.byteCells bs) w :=
      ⟨hge b (List.mem_cons_self), .slice ad n cap, by rw [← hcur]; exact r1, World.ownsRowF_of hown.1, hown.2⟩
    rcases hpp with rfl | rfl
    · exact .inl hBA
    · exact .inr hBA
  unfold Oper.wp
  rw [hrun, Oper.upon_enter, hd]
  refine (hst _ w hB hsz).mono fun ex w' ⟨h1, h2⟩ => ?_
  subst h1
  refine K _ w' ⟨h.defers, by simp [Act.put, h.size], fun i hi => ?_, ⟨fun B hB => (by cases hB), by simp [bks]⟩, ⟨h2.os.trans h.fr.os, h2.tape.trans h.fr.tape, h2.output.trans h.fr.output, Nat.le_trans hsz h2.size, fun c hc hn => ⟨(h2.block c hc).trans (h.fr.block c hc hn).1, by simp [bks]⟩⟩, h.ex, h.tab⟩
  have hs := h.size
  simp only [look_cons]
  by_cases ee : t = i
  · subst ee
    rw [if_pos rfl]
    have : (a.put (some t) (.string ⟨bs.toArray⟩)).tmps.getD t undef = .string ⟨bs.toArray⟩ := by
      have hi : t < a.tmps.size := by rw [hs]; exact hi
      simp [Act.put, Array.getElem?_setIfInBounds, hi]
    rw [this]; exact .v _
  · rw [if_neg ee]; exact .junk _

end Go.Proofs.YtdlcfkkkjklanaaDoor.V

namespace Go.Proofs.YtdlcfkkkjklanaaDoor.V
end Go.Proofs.YtdlcfkkkjklanaaDoor.V


namespace Go.Proofs.YtdlcfkkkjklanaaDoor.Bs
open Go.RowKit V
set_option linter.unusedVariables false
set_option linter.unusedSimpArgs false

theorem noEscape (u : Value) (w : World) : (callFunc 40 #[u]).run Tryd.prog w = .ok (.value u) w := by
  rw [run_callFunc_extern (P := Tryd.prog) (f := 40) Tryd.func40 (by kernel_rfl) (by kernel_rfl) (by kernel_rfl) (e := Extern.AbiNoEscape.same) (by kernel_rfl)]
  rfl
variable {G : List (Nat × List Value)}

set_option maxHeartbeats 4000000 in
set_option maxRecDepth 100000 in
theorem copy0_vc (b n cap : Nat) (ad : Option Addr) : VC Tryd.prog G 33 [.v (.pointer (some ⟨b, 0, none⟩))] [bldB 51 b none ad n cap] (fun r S => r = .tup [] ∧ S = [bldB 51 b (some ⟨b, 0, none⟩) ad n cap]) := by
  refine VC.body Tryd.func33 rfl Tryd.ntmps33 (Nat.le_of_ble_eq_true rfl) fun X0 w0 S00 => ?_
  unfold bldB
  refine CD.seq ?_
  refine CD.region ?_
  refine OD.still (wants_plain rfl) rfl (still_mv rfl ot) ?_
  refine OD.still (wants_plain rfl) rfl (still_r1 (mk := Op.nilCheck) rfl ot (by first | exact nc_ptr | exact nc_iptr)) ?_
  refine OD.still (wants_plain rfl) rfl (still_r1 (mk := fun y => Op.fieldAddr 51 y 0) rfl ot (by first | exact fa_ptr (off := 0) Tryd.runUnderlying51 rfl Tryd.sizeOf49 rfl | exact fa_iptr (off := 0) Tryd.runUnderlying51 rfl Tryd.sizeOf49 rfl)) ?_
  refine OD.still (wants_plain rfl) rfl (still_r1 (mk := Op.load 49) rfl ot (by first | exact ld_blk (k := 0) rfl rfl Tryd.isAgg49 rfl | exact ld_i Tryd.isAgg49 rfl)) ?_
  refine OD.still (wants_plain rfl) rfl (still_bin rfl ot opd_const (bin_ptrNil (by kernel_rfl))) ?_
  refine OD.wk (Wk.as_ (n := 20) (l' := [(0, _), (6, _)]) (S' := [⟨b, 51, 2, [_, _]⟩]) rfl rfl ⟨lk, lk, trivial⟩) ?_
  refine OD.nil ?_
  refine CD.cond ot (fun hc0 => ?_) (fun hc0 => ?_)
  · have hc0' := hc0
    (try simp only [decide_eq_true_eq, decide_eq_false_iff_not, beq_iff_eq, bne_iff_ne, Bool.not_eq_true', Bool.not_eq_false', Bool.not_eq_true, Bool.not_eq_false, beq_eq_false_iff_ne, ne_eq, bne_eq_false_iff_eq, Bool.and_eq_true, Bool.or_eq_true, Bool.not_not, Bool.and_eq_false_iff, Bool.or_eq_false_iff, Int.not_lt, Int.not_le] at hc0')
    refine CD.region ?_
    refine OD.still (wants_plain rfl) rfl (still_mv rfl ot) ?_
    refine OD.still (wants_plain rfl) rfl (still_mv rfl ot) ?_
    refine OD.still (wants_plain rfl) rfl (still_toUnsafe (k := 0) rfl ot rfl rfl Tryd.underlying49 Tryd.underlying69 (by kernel_rfl) (show 0 < 2 by decide)) ?_
    refine OD.still (wants_plain rfl) rfl (still_extern1 rfl ot (noEscape _)) ?_
    refine OD.still (wants_plain rfl) rfl (still_fromUnsafe (k := 0) rfl ot rfl rfl rfl rfl Tryd.underlying69 Tryd.underlying49 (by kernel_rfl) (by kernel_rfl)) ?_
    refine OD.still (wants_plain rfl) rfl (still_r1 (mk := Op.nilCheck) rfl ot (by first | exact nc_ptr | exact nc_iptr)) ?_
    refine OD.still (wants_plain rfl) rfl (still_r1 (mk := fun y => Op.fieldAddr 51 y 0) rfl ot (by first | exact fa_ptr (off := 0) Tryd.runUnderlying51 rfl Tryd.sizeOf49 rfl | exact fa_iptr (off := 0) Tryd.runUnderlying51 rfl Tryd.sizeOf49 rfl)) ?_
    refine OD.store (k := 0) (cs' := [_, _]) (wants_plain rfl) rfl rfl ot rfl rfl ot rfl rfl Tryd.sizeOf49 rfl rfl rfl ?_
    refine OD.wk (Wk.as_ (n := 20) (l' := []) (S' := [⟨b, 51, 2, [_, _]⟩]) rfl rfl trivial) ?_
    refine OD.nil ?_
    refine ⟨.inl rfl, _, [⟨b, 51, 2, [.v (.pointer (some ⟨b, 0, none⟩)), .v (.slice ad n cap)]⟩], (by repeat (first | exact List.Sublist.refl _ | apply List.Sublist.cons)), ret_none Tryd.results33 , ?_⟩
    exact ⟨rfl, rfl⟩
  · exact absurd hc0 (by simp)

set_option maxHeartbeats 4000000 in
set_option maxRecDepth 100000 in
theorem copy1_vc (b n cap : Nat) (ad : Option Addr) : VC Tryd.prog G 33 [.v (.pointer (some ⟨b, 0, none⟩))] [bldB 51 b (some ⟨b, 0, none⟩) ad n cap] (fun r S => r = .tup [] ∧ S = [bldB 51 b (some ⟨b, 0, none⟩) ad n cap]) := by
  refine VC.body Tryd.func33 rfl Tryd.ntmps33 (Nat.le_of_ble_eq_true rfl) fun X0 w0 S00 => ?_
  unfold bldB
  refine CD.seq ?_
  refine CD.region ?_
  refine OD.still (wants_plain rfl) rfl (still_mv rfl ot) ?_
  refine OD.still (wants_plain rfl) rfl (still_r1 (mk := Op.nilCheck) rfl ot (by first | exact nc_ptr | exact nc_iptr)) ?_
  refine OD.still (wants_plain rfl) rfl (still_r1 (mk := fun y => Op.fieldAddr 51 y 0) rfl ot (by first | exact fa_ptr (off := 0) Tryd.runUnderlying51 rfl Tryd.sizeOf49 rfl | exact fa_iptr (off := 0) Tryd.runUnderlying51 rfl Tryd.sizeOf49 rfl)) ?_
  refine OD.still (wants_plain rfl) rfl (still_r1 (mk := Op.load 49) rfl ot (by first | exact ld_blk (k := 0) rfl rfl Tryd.isAgg49 rfl | exact ld_i Tryd.isAgg49 rfl)) ?_
  refine OD.still (wants_plain rfl) rfl (still_bin rfl ot opd_const (bin_ptrNil (by kernel_rfl))) ?_
  refine OD.wk (Wk.as_ (n := 20) (l' := [(0, _), (6, _)]) (S' := [⟨b, 51, 2, [_, _]⟩]) rfl rfl ⟨lk, lk, trivial⟩) ?_
  refine OD.nil ?_
  refine CD.cond ot (fun hc0 => ?_) (fun hc0 => ?_)
  · exact absurd hc0 (by simp)
  · have hc0' := hc0
    (try simp only [decide_eq_true_eq, decide_eq_false_iff_not, beq_iff_eq, bne_iff_ne, Bool.not_eq_true', Bool.not_eq_false', Bool.not_eq_true, Bool.not_eq_false, beq_eq_false_iff_ne, ne_eq, bne_eq_false_iff_eq, Bool.and_eq_true, Bool.or_eq_true, Bool.not_not, Bool.and_eq_false_iff, Bool.or_eq_false_iff, Int.not_lt, Int.not_le] at hc0')
    refine CD.seq ?_
    refine CD.region ?_
    refine OD.still (wants_plain rfl) rfl (still_mv rfl ot) ?_
    refine OD.still (wants_plain rfl) rfl (still_r1 (mk := Op.nilCheck) rfl ot (by first | exact nc_ptr | exact nc_iptr)) ?_
    refine OD.still (wants_plain rfl) rfl (still_r1 (mk := fun y => Op.fieldAddr 51 y 0) rfl ot (by first | exact fa_ptr (off := 0) Tryd.runUnderlying51 rfl Tryd.sizeOf49 rfl | exact fa_iptr (off := 0) Tryd.runUnderlying51 rfl Tryd.sizeOf49 rfl)) ?_
    refine OD.still (wants_plain rfl) rfl (still_r1 (mk := Op.load 49) rfl ot (by first | exact ld_blk (k := 0) rfl rfl Tryd.isAgg49 rfl | exact ld_i Tryd.isAgg49 rfl)) ?_
    refine OD.still (wants_plain rfl) rfl (still_mv rfl ot) ?_
    refine OD.still (wants_plain rfl) rfl (still_bin rfl ot ot (bin_ptrSame Tryd.underlying49 (by kernel_rfl))) ?_
    refine OD.wk (Wk.as_ (n := 20) (l' := [(19, _)]) (S' := [⟨b, 51, 2, [_, _]⟩]) rfl rfl ⟨lk, trivial⟩) ?_
    refine OD.nil ?_
    refine CD.cond ot (fun hc1 => ?_) (fun hc1 => ?_)
    · exact absurd hc1 (by simp)
    · have hc1' := hc1
      (try simp only [decide_eq_true_eq, decide_eq_false_iff_not, beq_iff_eq, bne_iff_ne, Bool.not_eq_true', Bool.not_eq_false', Bool.not_eq_true, Bool.not_eq_false, beq_eq_false_iff_ne, ne_eq, bne_eq_false_iff_eq, Bool.and_eq_true, Bool.or_eq_true, Bool.not_not, Bool.and_eq_false_iff, Bool.or_eq_false_iff, Int.not_lt, Int.not_le] at hc1')
      refine CD.skip ?_
      refine ⟨.inl rfl, _, [⟨b, 51, 2, [.v (.pointer (some ⟨b, 0, none⟩)), .v (.slice ad n cap)]⟩], (by repeat (first | exact List.Sublist.refl _ | apply List.Sublist.cons)), ret_none Tryd.results33 , ?_⟩
      exact ⟨rfl, rfl⟩

theorem copy_vc (b n cap : Nat) (ad p : Option Addr) (hp : p = none ∨ p = some ⟨b, 0, none⟩) : VC Tryd.prog G 33 [.v (.pointer (some ⟨b, 0, none⟩))] [bldB 51 b p ad n cap] (fun r S => r = .tup [] ∧ S = [bldB 51 b (some ⟨b, 0, none⟩) ad n cap]) := by
  rcases hp with rfl | rfl
  · exact copy0_vc b n cap ad
  · exact copy1_vc b n cap ad

theorem perm_head {B : Blk} {S : List Blk} : (B :: S).Perm ([B] ++ S) := List.Perm.refl _
/-- What a method leaves: the builder with these bytes. -/
def Left (b : Nat) (bs : List UInt8) (S : List Blk) : Prop := ∃ ad cap Sq, OwnL 5 1 (bs.flatMap cB) bs.length ad cap Sq ∧ S = bldB 51 b (some ⟨b, 0, none⟩) ad bs.length cap :: Sq
theorem info8 : (Tryd.prog.info? 5).map (fun i => (i.zero, i.size, i.bytes)) = some (some (.int .u8 0), 1, 1) := by kernel_rfl

set_option maxHeartbeats 4000000 in
set_option maxRecDepth 100000 in
theorem wstr_vc (b cap : Nat) (ad p : Option Addr) (bs : List UInt8) (Sq : List Blk) (s : ByteArray) (hp : p = none ∨ p = some ⟨b, 0, none⟩) (ho : OwnL 5 1 (bs.flatMap cB) bs.length ad cap Sq) (hl : bs.length + s.size ≤ 1000000) : VC Tryd.prog G 19 [.v (.pointer (some ⟨b, 0, none⟩)), .v (.string s)] (bldB 51 b p ad bs.length cap :: Sq) (fun r S => r = .tup [.v (.int .i64 (s.size : Nat)), .v .nilIface] ∧ Left b (bs ++ s.data.toList) S) := by
  refine VC.body Tryd.func19 rfl Tryd.ntmps19 (Nat.le_of_ble_eq_true rfl) fun X0 w0 S00 => ?_
  have hmx : maxLen = 9223372036854775807 := rfl
  unfold bldB
  refine CD.seq ?_
  refine CD.region ?_
  refine OD.still (wants_plain rfl) rfl (still_as rfl opd_const) ?_
  refine OD.still (wants_plain rfl) rfl (still_as rfl opd_const) ?_
  refine OD.wk (Wk.as_ (n := 19) (l' := [(0, _), (1, _)]) (S' := (⟨b, 51, 2, [_, _]⟩ :: Sq)) rfl rfl ⟨lk, lk, trivial⟩) ?_
  refine OD.nil ?_
  refine CD.seq ?_
  refine CD.region ?_
  refine OD.still (wants_plain rfl) rfl (still_mv rfl ot) ?_
  refine OD.call (wants_plain rfl) rfl rfl rfl Tryd.call33 (copy_vc b bs.length cap ad p hp) ⟨ot, trivial⟩ (perm_head) ?_; rintro _ S7 ⟨rfl, rfl⟩
  unfold bldB
  refine OD.wk (Wk.as_ (n := 19) (l' := [(0, _), (1, _)]) (S' := (⟨b, 51, 2, [_, _]⟩ :: Sq)) rfl rfl ⟨lk, lk, trivial⟩) ?_
  refine OD.nil ?_
  refine CD.seq ?_
  refine CD.region ?_
  refine OD.still (wants_plain rfl) rfl (still_mv rfl ot) ?_
  refine OD.still (wants_plain rfl) rfl (still_mv rfl ot) ?_
  refine OD.still (wants_plain rfl) rfl (still_r1 (mk := Op.nilCheck) rfl ot (by first | exact nc_ptr | exact nc_iptr)) ?_
  refine OD.still (wants_plain rfl) rfl (still_r1 (mk := fun y => Op.fieldAddr 51 y 1) rfl ot (by first | exact fa_ptr (off := 1) Tryd.runUnderlying51 rfl Tryd.sizeOf24 rfl | exact fa_iptr (off := 1) Tryd.runUnderlying51 rfl Tryd.sizeOf24 rfl)) ?_
  refine OD.still (wants_plain rfl) rfl (still_r1 (mk := Op.load 24) rfl ot (by first | exact ld_blk (k := 0) rfl rfl Tryd.isAgg24 rfl | exact ld_i Tryd.isAgg24 rfl)) ?_
  refine OD.still (wants_plain rfl) rfl (still_mv rfl ot) ?_
  refine OD.appendStr (n := bs.length) (cap := cap) (ad := ad) (cs := bs.flatMap cB) (Sq := Sq) (R := [_]) (wants_plain rfl) rfl rfl Tryd.underlying24 Tryd.underlying9 info8 ot ho (perm_r11 (A := [_])) (by rw [fm_len cB_len, Nat.mul_one]) ot (by omega) (by omega) (fun ad2 cap2 S2 ho2 => ?_); refine OD.perm (perm_q11 (A := [_])) ?_
  refine OD.still (wants_plain rfl) rfl (still_r1 (mk := Op.nilCheck) rfl ot (by first | exact nc_ptr | exact nc_iptr)) ?_
  refine OD.still (wants_plain rfl) rfl (still_r1 (mk := fun y => Op.fieldAddr 51 y 1) rfl ot (by first | exact fa_ptr (off := 1) Tryd.runUnderlying51 rfl Tryd.sizeOf24 rfl | exact fa_iptr (off := 1) Tryd.runUnderlying51 rfl Tryd.sizeOf24 rfl)) ?_
  refine OD.store (k := 0) (cs' := [_, _]) (wants_plain rfl) rfl rfl ot rfl rfl ot rfl rfl Tryd.sizeOf24 rfl rfl rfl ?_
  refine OD.wk (Wk.as_ (n := 19) (l' := [(1, _)]) (S' := (⟨b, 51, 2, [_, _]⟩ :: S2)) rfl rfl ⟨lk, trivial⟩) ?_
  refine OD.nil ?_
  refine CD.seq ?_
  refine CD.region ?_
  refine OD.still (wants_plain rfl) rfl (still_mv rfl ot) ?_
  refine OD.still (wants_plain rfl) rfl (still_slen rfl rfl ot Tryd.runUnderlying9) ?_
  refine OD.still (wants_plain rfl) rfl (still_as rfl ot) ?_
  refine OD.still (wants_plain rfl) rfl (still_as rfl opd_const) ?_
  refine OD.wk (Wk.as_ (n := 19) (l' := [(4, _), (5, _)]) (S' := (⟨b, 51, 2, [_, _]⟩ :: S2)) rfl rfl ⟨lk, lk, trivial⟩) ?_
  refine OD.nil ?_
  refine CD.ret ?_
  refine ⟨.inr rfl, _, (⟨b, 51, 2, [.v (.pointer (some ⟨b, 0, none⟩)), .v (.slice ad2 (bs.length + s.size) cap2)]⟩ :: S2), List.Sublist.refl _, ret_two Tryd.results19 (res_tmp (Nat.le_of_ble_eq_true rfl) lk) (res_tmp (Nat.le_of_ble_eq_true rfl) lk), ?_⟩
  refine ⟨rfl, ad2, cap2, S2, ?_, ?_⟩
  · have e : (bs ++ s.data.toList).flatMap cB = bs.flatMap cB ++ bytesD s.data.toList := by rw [List.flatMap_append, show s.data.toList.flatMap cB = s.data.toList.map byteD from cB_map _]; rfl
    rw [e, List.length_append, str_len]; exact ho2
  · rw [List.length_append, str_len]; rfl

set_option maxHeartbeats 4000000 in
set_option maxRecDepth 100000 in
theorem wbyte_vc (b cap : Nat) (ad p : Option Addr) (bs : List UInt8) (Sq : List Blk) (c : UInt8) (hp : p = none ∨ p = some ⟨b, 0, none⟩) (ho : OwnL 5 1 (bs.flatMap cB) bs.length ad cap Sq) (hl : bs.length + 1 ≤ 1000000) : VC Tryd.prog G 22 [.v (.pointer (some ⟨b, 0, none⟩)), .v (.int .u8 (c.toNat : Int))] (bldB 51 b p ad bs.length cap :: Sq) (fun r S => r = .v .nilIface ∧ Left b (bs ++ [c]) S) := by
  refine VC.body Tryd.func22 rfl Tryd.ntmps22 (Nat.le_of_ble_eq_true rfl) fun X0 w0 S00 => ?_
  have hmx : maxLen = 9223372036854775807 := rfl
  unfold bldB
  refine CD.seq ?_
  refine CD.region ?_
  refine OD.still (wants_plain rfl) rfl (still_as rfl opd_const) ?_
  refine OD.wk (Wk.as_ (n := 17) (l' := [(0, _), (1, _)]) (S' := (⟨b, 51, 2, [_, _]⟩ :: Sq)) rfl rfl ⟨lk, lk, trivial⟩) ?_
  refine OD.nil ?_
  refine CD.seq ?_
  refine CD.region ?_
  refine OD.still (wants_plain rfl) rfl (still_mv rfl ot) ?_
  refine OD.call (wants_plain rfl) rfl rfl rfl Tryd.call33 (copy_vc b bs.length cap ad p hp) ⟨ot, trivial⟩ (perm_head) ?_; rintro _ S6 ⟨rfl, rfl⟩
  unfold bldB
  refine OD.wk (Wk.as_ (n := 17) (l' := [(0, _), (1, _)]) (S' := (⟨b, 51, 2, [_, _]⟩ :: Sq)) rfl rfl ⟨lk, lk, trivial⟩) ?_
  refine OD.nil ?_
  refine CD.seq ?_
  refine CD.region ?_
  refine OD.still (wants_plain rfl) rfl (still_mv rfl ot) ?_
  refine OD.still (wants_plain rfl) rfl (still_mv rfl ot) ?_
  refine OD.still (wants_plain rfl) rfl (still_r1 (mk := Op.nilCheck) rfl ot (by first | exact nc_ptr | exact nc_iptr)) ?_
  refine OD.still (wants_plain rfl) rfl (still_r1 (mk := fun y => Op.fieldAddr 51 y 1) rfl ot (by first | exact fa_ptr (off := 1) Tryd.runUnderlying51 rfl Tryd.sizeOf24 rfl | exact fa_iptr (off := 1) Tryd.runUnderlying51 rfl Tryd.sizeOf24 rfl)) ?_
  refine OD.still (wants_plain rfl) rfl (still_r1 (mk := Op.load 24) rfl ot (by first | exact ld_blk (k := 0) rfl rfl Tryd.isAgg24 rfl | exact ld_i Tryd.isAgg24 rfl)) ?_
  refine OD.still (wants_plain rfl) rfl (still_mv rfl ot) ?_
  refine OD.bldS (pl := [(0, _)]) (zvs := [.int .u8 0]) (ds := [_]) (wants_plain rfl) rfl rfl Tryd.zeroValue5 Tryd.runUnderlying24 Tryd.sizeOf5 rfl rfl (by kernel_rfl) ⟨rfl, ot, trivial⟩ rfl rfl (fun b13 => ?_)
  refine OD.give (k := 0) (t := 13) (sz := 1) (m := 1) (cs := [c].flatMap cB) rfl lk rfl rfl rfl (Nat.le_refl _) (by decide) ?_
  refine OD.appendG (g := cB) (ls := bs) (new := [c]) (Sq := Sq) (R := [_]) cB_len cB_one (wants_plain rfl) rfl rfl Tryd.underlying24 info8 rfl (by decide) ot ho (perm_r11 (A := [_])) ot (by simp) (by simp; omega) (by simp; omega) (fun b2 cap2 h1 h2 => ?_)
  refine OD.perm (List.Perm.swap _ _ _) ?_
  refine OD.still (wants_plain rfl) rfl (still_r1 (mk := Op.nilCheck) rfl ot (by first | exact nc_ptr | exact nc_iptr)) ?_
  refine OD.still (wants_plain rfl) rfl (still_r1 (mk := fun y => Op.fieldAddr 51 y 1) rfl ot (by first | exact fa_ptr (off := 1) Tryd.runUnderlying51 rfl Tryd.sizeOf24 rfl | exact fa_iptr (off := 1) Tryd.runUnderlying51 rfl Tryd.sizeOf24 rfl)) ?_
  first | refine OD.store (k := 0) (cs' := [_, _]) (wants_plain rfl) rfl rfl ot rfl rfl ot rfl rfl Tryd.sizeOf24 rfl rfl rfl ?_ | refine OD.store (k := 1) (wants_plain rfl) rfl rfl ot rfl rfl ot rfl rfl Tryd.sizeOf24 rfl rfl rfl ?_
  refine OD.wk (Wk.as_ (n := 17) (l' := []) (S' := [⟨b, 51, 2, [_, _]⟩, _]) rfl rfl trivial) ?_
  refine OD.nil ?_
  refine CD.seq ?_
  refine CD.region ?_
  refine OD.still (wants_plain rfl) rfl (still_as rfl opd_const) ?_
  refine OD.wk (Wk.as_ (n := 17) (l' := [(4, _)]) (S' := [⟨b, 51, 2, [_, _]⟩, _]) rfl rfl ⟨lk, trivial⟩) ?_
  refine OD.nil ?_
  refine CD.ret ?_
  refine ⟨.inr rfl, _, [⟨b, 51, 2, [.v (.pointer (some ⟨b, 0, none⟩)), .v (.slice (some ⟨b2, 0, none⟩) (bs ++ [c]).length cap2)]⟩, ⟨b2, 5, cap2 * 1, (bs ++ [c]).flatMap cB⟩], List.Sublist.refl _, ret_one Tryd.results22 (res_tmp (Nat.le_of_ble_eq_true rfl) lk), ?_⟩
  exact ⟨rfl, _, cap2, _, ownL_row (g := cB) (sz := 1) (ls := bs ++ [c]) h1 h2, rfl⟩

set_option maxHeartbeats 4000000 in
set_option maxRecDepth 100000 in
theorem len_vc (b n cap : Nat) (ad p : Option Addr) : VC Tryd.prog G 23 [.v (.pointer (some ⟨b, 0, none⟩))] [bldB 51 b p ad n cap] (fun r S => r = .v (.int .i64 (n : Nat)) ∧ S = [bldB 51 b p ad n cap]) := by
  refine VC.body Tryd.func23 rfl Tryd.ntmps23 (Nat.le_of_ble_eq_true rfl) fun X0 w0 S00 => ?_
  unfold bldB
  refine CD.seq ?_
  refine CD.region ?_
  refine OD.still (wants_plain rfl) rfl (still_as rfl opd_const) ?_
  refine OD.wk (Wk.as_ (n := 8) (l' := [(0, _)]) (S' := [⟨b, 51, 2, [_, _]⟩]) rfl rfl ⟨lk, trivial⟩) ?_
  refine OD.nil ?_
  refine CD.seq ?_
  refine CD.region ?_
  refine OD.still (wants_plain rfl) rfl (still_mv rfl ot) ?_
  refine OD.still (wants_plain rfl) rfl (still_r1 (mk := Op.nilCheck) rfl ot (by first | exact nc_ptr | exact nc_iptr)) ?_
  refine OD.still (wants_plain rfl) rfl (still_r1 (mk := fun y => Op.fieldAddr 51 y 1) rfl ot (by first | exact fa_ptr (off := 1) Tryd.runUnderlying51 rfl Tryd.sizeOf24 rfl | exact fa_iptr (off := 1) Tryd.runUnderlying51 rfl Tryd.sizeOf24 rfl)) ?_
  refine OD.still (wants_plain rfl) rfl (still_r1 (mk := Op.load 24) rfl ot (by first | exact ld_blk (k := 0) rfl rfl Tryd.isAgg24 rfl | exact ld_i Tryd.isAgg24 rfl)) ?_
  refine OD.still (wants_plain rfl) rfl (still_r1 (mk := fun y => .call { callee := .builtin .len, args := #[y], argTypes := #[24] }) rfl ot (by first | exact len_list rfl Tryd.runUnderlying24 | exact len_row rfl Tryd.runUnderlying24)) ?_
  refine OD.still (wants_plain rfl) rfl (still_as rfl ot) ?_
  refine OD.wk (Wk.as_ (n := 8) (l' := [(2, _)]) (S' := [⟨b, 51, 2, [_, _]⟩]) rfl rfl ⟨lk, trivial⟩) ?_
  refine OD.nil ?_
  refine CD.ret ?_
  refine ⟨.inr rfl, _, [⟨b, 51, 2, [.v (.pointer p), .v (.slice ad n cap)]⟩], (by repeat (first | exact List.Sublist.refl _ | apply List.Sublist.cons)), ret_one Tryd.results23 (res_tmp (Nat.le_of_ble_eq_true rfl) lk), ?_⟩
  exact ⟨rfl, rfl⟩

end Go.Proofs.YtdlcfkkkjklanaaDoor.Bs

namespace Go.Proofs.YtdlcfkkkjklanaaDoor.Rp
open Go.RowKit V
set_option linter.unusedVariables false
set_option linter.unusedSimpArgs false

theorem repl_one (c : UInt8) (new : List UInt8) : ∀ s : List UInt8, Lib.replaceK [c] new (s.count c) s = s.flatMap fun b => if b = c then new else [b]
  | [] => rfl
  | b :: l => by
    have ih := repl_one c new l
    by_cases h : b = c
    · subst h
      have hi : Lib.index (b :: l) [b] = ((0 : Nat) : Int) := by rw [Lib.index_one]; simp [Lib.indexByte]
      rw [List.count_cons_self, Lib.replaceK_hit _ _ _ _ _ hi, List.flatMap_cons, if_pos rfl, ← ih]
      simp
    · have hc : (b :: l).count c = l.count c := List.count_cons_of_ne h
      rw [hc, List.flatMap_cons, if_neg h, ← ih]
      cases hk : l.count c with
      | zero => rfl
      | succ k =>
        obtain ⟨i, hi⟩ := Lib.index_of_count (s := l) (old := [c]) (by rw [Lib.count_one]; omega)
        have hi2 : Lib.index (b :: l) [c] = ((i + 1 : Nat) : Int) := by
          rw [Lib.index_one] at hi ⊢
          unfold Lib.indexByte
          rw [if_neg (by simpa using h), hi, if_neg (by rw [beq_iff_eq]; omega)]
          omega
        rw [Lib.replaceK_hit _ _ _ _ _ hi2, Lib.replaceK_hit _ _ _ _ _ hi]
        simp
def replS (c : UInt8) (new : List UInt8) (s : ByteArray) : ByteArray := ⟨(s.data.toList.flatMap fun b => if b = c then new else [b]).toArray⟩
theorem replAll_one (c : UInt8) (new s : List UInt8) : Lib.replaceAll s [c] new = s.flatMap fun b => if b = c then new else [b] := by
  unfold Lib.replaceAll Lib.replace Lib.replaceNum
  split
  · rename_i h
    have h' : [c] = new := by simpa using h
    subst h'
    induction s with
    | nil => rfl
    | cons b l ih =>
      rw [List.flatMap_cons, ← ih]
      have : (if b = c then [c] else [b]) = [b] := by
        split
        · rename_i e; rw [e]
        · rfl
      rw [this]; rfl
  · rw [if_pos (.inl (by decide)), Lib.count_one, repl_one]
variable {G : List (Nat × List Value)} {m : Int}
theorem repl_vp (hG : (4, [Value.int .i64 m]) ∈ G) (c : UInt8) (new : ByteArray) (s : ByteArray) (hs : s.size ≤ 1000000) (hn : new.size ≤ 1000) : VP Tryd.prog G 21 [.v (.string s), .v (.string ⟨#[c]⟩), .v (.string new)] (.v (.string (replS c new.data.toList s))) := by
  have hc : Lib.countB s ⟨#[c]⟩ ≤ 1000000 := by
    show Lib.count s.data.toList [c] ≤ 1000000
    rw [Lib.count_one]
    exact Nat.le_trans List.count_le_length (by rw [str_len]; exact hs)
  have hmul : Lib.countB s ⟨#[c]⟩ * new.size ≤ 1000000 * 1000 := Nat.mul_le_mul hc hn
  have key := VP.ofCalls (P := Tryd.prog) (G := G) (f := 21) (vs := [.string s, .string ⟨#[c]⟩, .string new]) (v := .string (replS c new.data.toList s)) fun w htab => by
    refine (Tryd.strings_ReplaceAll s ⟨#[c]⟩ new m w (by omega) (htab _ hG 0 _ rfl) (Nat.le_refl _) (by omega)).mono fun e w' ⟨h1, h2⟩ => ⟨?_, h2⟩
    rw [h1]
    congr 2
    show (⟨(Lib.replaceAll s.data.toList [c] new.data.toList).toArray⟩ : ByteArray) = _
    rw [replAll_one]; rfl
  exact key

end Go.Proofs.YtdlcfkkkjklanaaDoor.Rp
namespace Go.Proofs.YtdlcfkkkjklanaaDoor.Cd
theorem len_var {W : World} (hS : W.ShapedOpen Tryd.prog) : ∃ m, Tab.TabAt W 4 [Value.int .i64 m] := by
  obtain ⟨m, hm⟩ := Tryd.laysM155.s1_3 W hS
  exact ⟨m, fun k v hk => by
    match k, hk with
    | 0, hk => cases hk; exact hm⟩
end Go.Proofs.YtdlcfkkkjklanaaDoor.Cd
namespace Go.Proofs.YtdlcfkkkjklanaaDoor.Rp

end Go.Proofs.YtdlcfkkkjklanaaDoor.Rp

namespace Go.Proofs.YtdlcfkkkjklanaaDoor.Lx
open Go.RowKit V Go.Proofs.YtdlcfkkkjklanaaDoor.Nm Go.Proofs.YtdlcfkkkjklanaaDoor.Pk Go.Proofs.YtdlcfkkkjklanaaDoor.Bs Go.Proofs.YtdlcfkkkjklanaaDoor.Rp
set_option linter.unusedVariables false
set_option linter.unusedSimpArgs false

/-- A text's bytes, each quote twice. -/
def escQ (s : ByteArray) : List UInt8 := (replS 39 [39, 39] s).data.toList
def showT (t : Tk) : List UInt8 := if t.k = 2 then Lib.itoa t.n else if t.k = 3 then [39] ++ escQ t.s ++ [39] else t.s.data.toList
def joinG : List Tk → List UInt8 → List UInt8 × Int
  | [], acc => (acc, 0)
  | t :: r, acc => if checkT t ≠ 0 then ([], checkT t) else if (acc ++ showT t ++ [32]).length > 400 then ([], 1) else joinG r (acc ++ showT t ++ [32])
/-- Tokens joined; what is wrong. -/
def joinF (l : List Tk) : List UInt8 × Int := if l.length > 100 then ([], 10) else joinG l []
def joinD (r : List UInt8 × Int) : D := .tup [.v (.string ⟨r.1.toArray⟩), .v (.int .i64 r.2)]
theorem join_bad {t : Tk} {r : List Tk} {acc : List UInt8} (h : checkT t ≠ 0) : joinG (t :: r) acc = ([], checkT t) := by rw [joinG, if_pos h]
theorem join_long {t : Tk} {r : List Tk} {acc : List UInt8} (h : checkT t = 0) (h1 : 400 < (acc ++ showT t ++ [32]).length) : joinG (t :: r) acc = ([], 1) := by rw [joinG, if_neg (by simpa using h), if_pos h1]
theorem join_more {t : Tk} {r : List Tk} {acc : List UInt8} (h : checkT t = 0) (h1 : (acc ++ showT t ++ [32]).length ≤ 400) : joinG (t :: r) acc = joinG r (acc ++ showT t ++ [32]) := by rw [joinG, if_neg (by simpa using h), if_neg (by omega)]
theorem drop_at {l : List Tk} {i : Nat} (h : i < l.length) : l.drop i = l[i] :: l.drop (i + 1) := List.drop_eq_getElem_cons h
theorem esc_len (s : ByteArray) : (escQ s).length ≤ 2 * s.size := by
  rw [← str_len s]
  show (s.data.toList.flatMap fun b => if b = 39 then [39, 39] else [b]).length ≤ _
  induction s.data.toList with
  | nil => simp
  | cons a l ih =>
    rw [List.flatMap_cons, List.length_append, List.length_cons]
    have : (if a = 39 then [39, 39] else [a] : List UInt8).length ≤ 2 := by split <;> simp
    omega

theorem show_num {t : Tk} (h : t.k = 2) : showT t = (⟨(Lib.itoa t.n).toArray⟩ : ByteArray).data.toList := by unfold showT; rw [if_pos h]
theorem show_str {t : Tk} (h : t.k = 3) : showT t = ((⟨#[39]⟩ : ByteArray) ++ replS 39 [39, 39] t.s ++ ⟨#[39]⟩).data.toList := by
  unfold showT
  rw [if_neg (by omega), if_pos h]
  simp only [Go.Joins.data_append]
  rfl
theorem show_txt {t : Tk} (h : t.k ≠ 2) (h1 : t.k ≠ 3) : showT t = t.s.data.toList := by unfold showT; rw [if_neg h, if_neg h1]
def NumOk (G : List (Nat × List Value)) (l : List Tk) : Prop := ∀ t ∈ l, t.k = 2 → VP Tryd.prog G 20 [.v (.int .i64 t.n)] (.v (.string ⟨(Lib.itoa t.n).toArray⟩)) ∧ (Lib.itoa t.n).length ≤ 1000
variable {G : List (Nat × List Value)} {m : Int}

set_option maxHeartbeats 4000000 in
set_option maxRecDepth 100000 in
theorem join_vp (hm : (0, marksC) ∈ G) (hG : (4, [Value.int .i64 m]) ∈ G) (l : List Tk) (hll : l.length ≤ maxLen) (hsz : ∀ t ∈ l, t.s.size ≤ 100000) (hI : NumOk G l) : VP Tryd.prog G 12 [.list 3 (l.flatMap cT) l.length] (joinD (joinF l)) := by
  refine VC.bodyS Tryd.func12 rfl Tryd.ntmps12 (Nat.le_of_ble_eq_true rfl) fun X0 w0 S00 hS00 => ?_
  have hmx : maxLen = 9223372036854775807 := rfl
  refine CD.seq ?_
  refine CD.region ?_
  refine OD.still (wants_plain rfl) rfl (still_as rfl opd_const) ?_
  refine OD.still (wants_plain rfl) rfl (still_as rfl opd_const) ?_
  refine OD.wk (Wk.as_ (n := 46) (l' := [(0, _)]) (S' := []) rfl rfl ⟨lk, trivial⟩) ?_
  refine OD.nil ?_
  refine CD.seq ?_
  refine CD.seq ?_
  refine CD.region ?_
  refine OD.still (wants_plain rfl) rfl (still_mv rfl ot) ?_
  refine OD.still (wants_plain rfl) rfl (still_r1 (mk := fun y => .call { callee := .builtin .len, args := #[y], argTypes := #[25] }) rfl ot (by first | exact len_list rfl Tryd.runUnderlying25 | exact len_row rfl Tryd.runUnderlying25)) ?_
  refine OD.still (wants_plain rfl) rfl (still_bin rfl ot opd_const bin_gtr) ?_
  refine OD.wk (Wk.as_ (n := 46) (l' := [(0, _), (10, _)]) (S' := []) rfl rfl ⟨lk, lk, trivial⟩) ?_
  refine OD.nil ?_
  refine CD.cond ot (fun hc0 => ?_) (fun hc0 => ?_)
  · have hc0' := hc0
    (try simp only [decide_eq_true_eq, decide_eq_false_iff_not, beq_iff_eq, bne_iff_ne, Bool.not_eq_true', Bool.not_eq_false', Bool.not_eq_true, Bool.not_eq_false, beq_eq_false_iff_ne, ne_eq, bne_eq_false_iff_eq, Bool.and_eq_true, Bool.or_eq_true, Bool.not_not, Bool.and_eq_false_iff, Bool.or_eq_false_iff, Int.not_lt, Int.not_le] at hc0')
    have hbig : joinF l = ([], 10) := by unfold joinF; rw [if_pos (by omega)]
    refine CD.seq ?_
    refine CD.region ?_
    refine OD.still (wants_plain rfl) rfl (still_as rfl opd_const) ?_
    refine OD.still (wants_plain rfl) rfl (still_as rfl opd_const) ?_
    refine OD.wk (Wk.as_ (n := 46) (l' := [(2, _), (3, _)]) (S' := []) rfl rfl ⟨lk, lk, trivial⟩) ?_
    refine OD.nil ?_
    refine CD.ret ?_
    refine ⟨.inr rfl, _, [], List.nil_sublist _, ret_two Tryd.results12 (res_tmp (Nat.le_of_ble_eq_true rfl) lk) (res_tmp (Nat.le_of_ble_eq_true rfl) lk), ?_⟩
    first | (rw [hbig]; exact ⟨rfl, rfl⟩) | (rw [hjf, hend]; exact ⟨rfl, rfl⟩)
  · have hc0' := hc0
    (try simp only [decide_eq_true_eq, decide_eq_false_iff_not, beq_iff_eq, bne_iff_ne, Bool.not_eq_true', Bool.not_eq_false', Bool.not_eq_true, Bool.not_eq_false, beq_eq_false_iff_ne, ne_eq, bne_eq_false_iff_eq, Bool.and_eq_true, Bool.or_eq_true, Bool.not_not, Bool.and_eq_false_iff, Bool.or_eq_false_iff, Int.not_lt, Int.not_le] at hc0')
    have hjf : joinF l = joinG l [] := by unfold joinF; rw [if_neg (by omega)]
    refine CD.skip ?_
    refine CD.seq ?_
    refine CD.region ?_
    refine OD.alloc (ds := [_, _]) (wants_plain rfl) rfl rfl Tryd.zeroValue51 rfl (fun b4 => ?_)
    refine OD.wk (Wk.as_ (n := 46) (l' := [(0, _), (4, _)]) (S' := [⟨b4, 51, 2, [_, _]⟩]) rfl rfl ⟨lk, lk, trivial⟩) ?_
    refine OD.nil ?_
    refine CD.seq ?_
    refine CD.seq ?_
    refine CD.region ?_
    refine OD.still (wants_plain rfl) rfl (still_mv rfl ot) ?_
    refine OD.still (wants_plain rfl) rfl (still_r1 (mk := fun y => .call { callee := .builtin .len, args := #[y], argTypes := #[25] }) rfl ot (by first | exact len_list rfl Tryd.runUnderlying25 | exact len_row rfl Tryd.runUnderlying25)) ?_
    refine OD.still (wants_plain rfl) rfl (still_mv rfl opd_const) ?_
    refine OD.wk (Wk.as_ (n := 46) (l' := [(4, _), (11, _), (12, _), (13, _)]) (S' := [⟨b4, 51, 2, [_, _]⟩]) rfl rfl ⟨lk, lk, lk, lk, trivial⟩) ?_
    refine OD.nil ?_
    refine CD.block ?_
    refine CD.wk (Wk.asS (n := 46) (l' := [(4, .v (.pointer (some ⟨b4, 0, none⟩))), (11, .list 3 (l.flatMap cT) l.length), (12, .v (.int .i64 (l.length : Nat))), (13, .v (.int .i64 ((0) : Nat)))]) (S' := ((⟨b4, 51, 2, [.v (.pointer none), .v (.slice none ([]).length (0))]⟩ : Blk) :: ([]))) rfl (by repeat (first | exact List.Sublist.refl _ | apply List.Sublist.cons_cons | apply List.Sublist.cons)) ⟨(by (repeat (first | exact look_hit | (apply look_at; focus (first | rfl | (simp; done) | (congr 2; omega))) | (apply look_miss; focus rfl))); done), (by (repeat (first | exact look_hit | (apply look_at; focus (first | rfl | (simp; done) | (congr 2; omega))) | (apply look_miss; focus rfl))); done), (by (repeat (first | exact look_hit | (apply look_at; focus (first | rfl | (simp; done) | (congr 2; omega))) | (apply look_miss; focus rfl))); done), (by (repeat (first | exact look_hit | (apply look_at; focus (first | rfl | (simp; done) | (congr 2; omega))) | (apply look_miss; focus rfl))); done), trivial⟩) (CD.loop (fun (gh__ : Nat × List UInt8 × Option Addr × Option Addr × Nat × List Blk) y__ => match gh__ with | (i, acc, p, adr, cpr, Sr) => (i ≤ l.length) ∧ (joinG (l.drop i) acc = joinG l []) ∧ (acc.length ≤ 400) ∧ (p = none ∨ p = some ⟨b4, 0, none⟩) ∧ (OwnL 5 1 (acc.flatMap cB) acc.length adr cpr Sr) ∧ y__ = (⟨46, [(4, .v (.pointer (some ⟨b4, 0, none⟩))), (11, .list 3 (l.flatMap cT) l.length), (12, .v (.int .i64 (l.length : Nat))), (13, .v (.int .i64 (i : Nat)))], ((⟨b4, 51, 2, [.v (.pointer p), .v (.slice adr acc.length cpr)]⟩ : Blk) :: Sr)⟩ : St)) (fun (gh__ : Nat × List UInt8 × Option Addr × Option Addr × Nat × List Blk) => match gh__ with | (i, acc, p, adr, cpr, Sr) => l.length - i) (0, [], none, none, 0, []) ⟨(Nat.zero_le _), rfl, (Nat.zero_le _), (.inl rfl), ownL_nil, rfl⟩ ?_)
    rintro ⟨i, acc, p, adr, cpr, Sr⟩ _ ⟨hi, hj, hal, hp, hor, rfl⟩
    refine CD.seq ?_
    refine CD.region ?_
    refine OD.still (wants_plain rfl) rfl (still_bin rfl ot ot bin_lss) ?_
    refine OD.wk (Wk.as_ (n := 46) (l' := [(4, _), (11, _), (12, _), (13, _), (14, _)]) (S' := (⟨b4, 51, 2, [_, _]⟩ :: Sr)) rfl rfl ⟨lk, lk, lk, lk, lk, trivial⟩) ?_
    refine OD.nil ?_
    refine CD.seq ?_
    refine CD.cond ot (fun hc1 => ?_) (fun hc1 => ?_)
    · have hc1' := hc1
      (try simp only [decide_eq_true_eq, decide_eq_false_iff_not, beq_iff_eq, bne_iff_ne, Bool.not_eq_true', Bool.not_eq_false', Bool.not_eq_true, Bool.not_eq_false, beq_eq_false_iff_ne, ne_eq, bne_eq_false_iff_eq, Bool.and_eq_true, Bool.or_eq_true, Bool.not_not, Bool.and_eq_false_iff, Bool.or_eq_false_iff, Int.not_lt, Int.not_le] at hc1')
      have hlt : i < l.length := by omega
      have hd := drop_at hlt
      have htm := List.getElem_mem hlt
      have hts := hsz _ htm
      rw [hd] at hj
      refine CD.skip ?_
      refine CD.seq ?_
      refine CD.block ?_
      refine CD.seq ?_
      refine CD.region ?_
      refine OD.still (wants_plain rfl) rfl (still_r2 (mk := Op.indexAddr 25) rfl ot ot (by first | exact ix_list Tryd.runUnderlying25 Tryd.sizeOf30 rfl (by first | assumption | omega) | exact ix_list (j := Int.toNat _) Tryd.runUnderlying25 Tryd.sizeOf30 (Int.toNat_of_nonneg (by omega)).symm (by omega) | exact ix_row Tryd.runUnderlying25 Tryd.sizeOf30 rfl (by first | assumption | omega) | exact ix_row (j := Int.toNat _) Tryd.runUnderlying25 Tryd.sizeOf30 (Int.toNat_of_nonneg (by omega)).symm (by omega))) ?_
      refine OD.still (wants_plain rfl) rfl (still_r1 (mk := Op.load 30) rfl ot (by first | exact ld_blks (k := 0) (ds := [_, _, _]) rfl rfl Tryd.isAgg30 Tryd.sizeOf30 rfl rfl | exact ld_fms cT_len Tryd.isAgg30 Tryd.sizeOf30 (by first | assumption | omega) | exact ld_rows (k := 0) cT_len rfl rfl rfl Tryd.isAgg30 Tryd.sizeOf30 (by first | assumption | omega) | exact ld_is (ds := [_, _, _]) Tryd.isAgg30 Tryd.sizeOf30 rfl rfl)) ?_
      refine OD.alloc (ds := [_, _, _]) (wants_plain rfl) rfl rfl Tryd.zeroValue30 rfl (fun b6 => ?_)
      refine OD.store (k := 0) (cs' := [_, _, _]) (wants_plain rfl) rfl rfl ot rfl rfl ot rfl rfl Tryd.sizeOf30 rfl rfl rfl ?_
      refine OD.wk (Wk.as_ (n := 46) (l' := [(4, _), (6, _), (11, _), (12, _), (13, _)]) (S' := (⟨b6, 30, 3, [_, _, _]⟩ :: ⟨b4, 51, 2, [_, _]⟩ :: Sr)) rfl rfl ⟨lk, lk, lk, lk, lk, trivial⟩) ?_
      refine OD.nil ?_
      refine CD.seq ?_
      refine CD.seq ?_
      refine CD.region ?_
      refine OD.still (wants_plain rfl) rfl (still_r1 (mk := Op.load 30) rfl ot (by first | exact ld_blks (k := 0) (ds := [_, _, _]) rfl rfl Tryd.isAgg30 Tryd.sizeOf30 rfl rfl | exact ld_fms cT_len Tryd.isAgg30 Tryd.sizeOf30 (by first | assumption | omega) | exact ld_rows (k := 0) cT_len rfl rfl rfl Tryd.isAgg30 Tryd.sizeOf30 (by first | assumption | omega) | exact ld_rows (k := 1) cT_len rfl rfl rfl Tryd.isAgg30 Tryd.sizeOf30 (by first | assumption | omega) | exact ld_is (ds := [_, _, _]) Tryd.isAgg30 Tryd.sizeOf30 rfl rfl)) ?_
      refine OD.callP (wants_plain rfl) rfl rfl rfl Tryd.call18 (check_vp hm l[i] (by omega)) ⟨ot, trivial⟩ ?_
      refine OD.still (wants_plain rfl) rfl (still_as rfl ot) ?_
      refine OD.wk (Wk.as_ (n := 46) (l' := [(4, _), (6, _), (7, _), (11, _), (12, _), (13, _)]) (S' := (⟨b6, 30, 3, [_, _, _]⟩ :: ⟨b4, 51, 2, [_, _]⟩ :: Sr)) rfl rfl ⟨lk, lk, lk, lk, lk, lk, trivial⟩) ?_
      refine OD.nil ?_
      refine CD.seq ?_
      refine CD.region ?_
      refine OD.still (wants_plain rfl) rfl (still_mv rfl ot) ?_
      refine OD.still (wants_plain rfl) rfl (still_bin rfl ot opd_const bin_neq) ?_
      refine OD.wk (Wk.as_ (n := 46) (l' := [(4, _), (6, _), (7, _), (11, _), (12, _), (13, _), (20, _)]) (S' := (⟨b6, 30, 3, [_, _, _]⟩ :: ⟨b4, 51, 2, [_, _]⟩ :: Sr)) rfl rfl ⟨lk, lk, lk, lk, lk, lk, lk, trivial⟩) ?_
      refine OD.nil ?_
      refine CD.cond ot (fun hc2 => ?_) (fun hc2 => ?_)
      · have hc2' := hc2
        (try simp only [decide_eq_true_eq, decide_eq_false_iff_not, beq_iff_eq, bne_iff_ne, Bool.not_eq_true', Bool.not_eq_false', Bool.not_eq_true, Bool.not_eq_false, beq_eq_false_iff_ne, ne_eq, bne_eq_false_iff_eq, Bool.and_eq_true, Bool.or_eq_true, Bool.not_not, Bool.and_eq_false_iff, Bool.or_eq_false_iff, Int.not_lt, Int.not_le] at hc2')
        have hc0 : checkT l[i] ≠ 0 := by simpa using hc2
        have hend := join_bad (r := l.drop (i + 1)) (acc := acc) hc0
        rw [hj] at hend
        refine CD.seq ?_
        refine CD.region ?_
        refine OD.still (wants_plain rfl) rfl (still_mv rfl ot) ?_
        refine OD.still (wants_plain rfl) rfl (still_as rfl opd_const) ?_
        refine OD.still (wants_plain rfl) rfl (still_as rfl ot) ?_
        refine OD.wk (Wk.as_ (n := 46) (l' := [(2, _), (3, _)]) (S' := (⟨b6, 30, 3, [_, _, _]⟩ :: ⟨b4, 51, 2, [_, _]⟩ :: Sr)) rfl rfl ⟨lk, lk, trivial⟩) ?_
        refine OD.nil ?_
        refine CD.ret ?_
        refine ⟨.inr rfl, _, [], List.nil_sublist _, ret_two Tryd.results12 (res_tmp (Nat.le_of_ble_eq_true rfl) lk) (res_tmp (Nat.le_of_ble_eq_true rfl) lk), ?_⟩
        first | (rw [hbig]; exact ⟨rfl, rfl⟩) | (rw [hjf, hend]; exact ⟨rfl, rfl⟩)
      · have hc2' := hc2
        (try simp only [decide_eq_true_eq, decide_eq_false_iff_not, beq_iff_eq, bne_iff_ne, Bool.not_eq_true', Bool.not_eq_false', Bool.not_eq_true, Bool.not_eq_false, beq_eq_false_iff_ne, ne_eq, bne_eq_false_iff_eq, Bool.and_eq_true, Bool.or_eq_true, Bool.not_not, Bool.and_eq_false_iff, Bool.or_eq_false_iff, Int.not_lt, Int.not_le] at hc2')
        have hc0 : checkT l[i] = 0 := by simpa using hc2
        refine CD.skip ?_
        refine CD.seq ?_
        refine CD.seq ?_
        refine CD.region ?_
        refine OD.still (wants_plain rfl) rfl (still_r1 (mk := fun y => Op.fieldAddr 30 y 0) rfl ot (by first | exact fa_ptr (off := 0) Tryd.runUnderlying30 rfl Tryd.sizeOf3 rfl | exact fa_iptr (off := 0) Tryd.runUnderlying30 rfl Tryd.sizeOf3 rfl)) ?_
        refine OD.still (wants_plain rfl) rfl (still_r1 (mk := Op.load 3) rfl ot (by first | exact ld_blk (k := 0) rfl rfl Tryd.isAgg3 rfl | exact ld_fm cT_len Tryd.isAgg3 (by first | assumption | omega) rfl | exact ld_fm0 cT_len Tryd.isAgg3 (by first | assumption | omega) rfl | exact ld_row (k := 0) cT_len rfl rfl rfl Tryd.isAgg3 (by first | assumption | omega) rfl | exact ld_row0 (k := 0) cT_len rfl rfl rfl Tryd.isAgg3 (by first | assumption | omega) rfl | exact ld_row (k := 1) cT_len rfl rfl rfl Tryd.isAgg3 (by first | assumption | omega) rfl | exact ld_row0 (k := 1) cT_len rfl rfl rfl Tryd.isAgg3 (by first | assumption | omega) rfl | exact ld_i Tryd.isAgg3 rfl)) ?_
        refine OD.wk (Wk.as_ (n := 46) (l' := [(4, _), (6, _), (11, _), (12, _), (13, _), (23, _)]) (S' := (⟨b6, 30, 3, [_, _, _]⟩ :: ⟨b4, 51, 2, [_, _]⟩ :: Sr)) rfl rfl ⟨lk, lk, lk, lk, lk, lk, trivial⟩) ?_
        refine OD.nil ?_
        refine CD.block ?_
        refine CD.seq ?_
        refine CD.region ?_
        refine OD.still (wants_plain rfl) rfl (still_bin rfl ot opd_const bin_eql) ?_
        refine OD.still (wants_plain rfl) rfl (still_as rfl ot) ?_
        refine OD.wk (Wk.as_ (n := 46) (l' := [(4, _), (6, _), (11, _), (12, _), (13, _), (23, _), (27, _)]) (S' := (⟨b6, 30, 3, [_, _, _]⟩ :: ⟨b4, 51, 2, [_, _]⟩ :: Sr)) rfl rfl ⟨lk, lk, lk, lk, lk, lk, lk, trivial⟩) ?_
        refine OD.nil ?_
        refine CD.cond ot (fun hc3 => ?_) (fun hc3 => ?_)
        · have hc3' := hc3
          (try simp only [decide_eq_true_eq, decide_eq_false_iff_not, beq_iff_eq, bne_iff_ne, Bool.not_eq_true', Bool.not_eq_false', Bool.not_eq_true, Bool.not_eq_false, beq_eq_false_iff_ne, ne_eq, bne_eq_false_iff_eq, Bool.and_eq_true, Bool.or_eq_true, Bool.not_not, Bool.and_eq_false_iff, Bool.or_eq_false_iff, Int.not_lt, Int.not_le] at hc3')
          have hk2 : l[i].k = 2 := by simpa using hc3
          obtain ⟨hI1, hI2⟩ := hI _ htm hk2
          refine CD.region ?_
          refine OD.still (wants_plain rfl) rfl (still_r1 (mk := fun y => Op.fieldAddr 30 y 2) rfl ot (by first | exact fa_ptr (off := 2) Tryd.runUnderlying30 rfl Tryd.sizeOf3 rfl | exact fa_iptr (off := 2) Tryd.runUnderlying30 rfl Tryd.sizeOf3 rfl)) ?_
          refine OD.still (wants_plain rfl) rfl (still_r1 (mk := Op.load 3) rfl ot (by first | exact ld_blk (k := 0) rfl rfl Tryd.isAgg3 rfl | exact ld_fm cT_len Tryd.isAgg3 (by first | assumption | omega) rfl | exact ld_fm0 cT_len Tryd.isAgg3 (by first | assumption | omega) rfl | exact ld_row (k := 0) cT_len rfl rfl rfl Tryd.isAgg3 (by first | assumption | omega) rfl | exact ld_row0 (k := 0) cT_len rfl rfl rfl Tryd.isAgg3 (by first | assumption | omega) rfl | exact ld_row (k := 1) cT_len rfl rfl rfl Tryd.isAgg3 (by first | assumption | omega) rfl | exact ld_row0 (k := 1) cT_len rfl rfl rfl Tryd.isAgg3 (by first | assumption | omega) rfl | exact ld_i Tryd.isAgg3 rfl)) ?_
          refine OD.callP (wants_plain rfl) rfl rfl rfl Tryd.call20 (hI1) ⟨ot, trivial⟩ ?_
          have hsh := show_num hk2
          have hshl : (showT l[i]).length ≤ 300000 := by rw [hsh]; first | (show (Lib.itoa l[i].n).length ≤ _; omega) | (rw [str_len, cat_size, cat_size]; show 1 + (replS 39 [39, 39] l[i].s).size + 1 ≤ _; omega) | (rw [str_len]; omega)
          refine OD.call (wants_plain rfl) rfl rfl rfl Tryd.call19 (wstr_vc b4 cpr adr p acc Sr ((⟨(Lib.itoa l[i].n).toArray⟩ : ByteArray)) hp hor (by rw [← str_len]; show acc.length + (Lib.itoa l[i].n).length ≤ _; omega)) ⟨ot, ot, trivial⟩ (perm_r11 (A := [_])) ?_
          rintro _ S32 ⟨rfl, ad32, cp32, Sq32, ho32, rfl⟩
          unfold bldB
          refine OD.perm (perm_q11 (A := [_])) ?_
          refine OD.wk (Wk.as_ (n := 46) (l' := [(4, _), (11, _), (12, _), (13, _)]) (S' := (⟨b6, 30, 3, [_, _, _]⟩ :: ⟨b4, 51, 2, [_, _]⟩ :: Sq32)) rfl rfl ⟨lk, lk, lk, lk, trivial⟩) ?_
          refine OD.nil ?_
          refine CD.seq ?_
          refine CD.region ?_
          refine OD.call (wants_plain rfl) rfl rfl rfl Tryd.call22 (wbyte_vc b4 cp32 ad32 _ (acc ++ ((⟨(Lib.itoa l[i].n).toArray⟩ : ByteArray)).data.toList) Sq32 32 (.inr rfl) ho32 (by rw [← hsh]; simp only [List.length_append]; omega)) ⟨ot, opd_const, trivial⟩ (perm_r11 (A := [_])) ?_
          rintro _ S41 ⟨rfl, ad41, cp41, Sq41, ho41, rfl⟩
          unfold bldB
          refine OD.perm (perm_q11 (A := [_])) ?_
          rw [← hsh] at *
          refine OD.wk (Wk.as_ (n := 46) (l' := [(4, _), (11, _), (12, _), (13, _)]) (S' := (⟨b6, 30, 3, [_, _, _]⟩ :: ⟨b4, 51, 2, [_, _]⟩ :: Sq41)) rfl rfl ⟨lk, lk, lk, lk, trivial⟩) ?_
          refine OD.nil ?_
          refine CD.seq ?_
          refine CD.region ?_
          refine OD.call (wants_plain rfl) rfl rfl rfl Tryd.call23 (len_vc b4 _ cp41 ad41 (some ⟨b4, 0, none⟩)) ⟨ot, trivial⟩ (perm_one (k := 1) rfl) ?_
          rintro _ S42 ⟨rfl, rfl⟩
          unfold bldB
          refine OD.still (wants_plain rfl) rfl (still_bin rfl ot opd_const bin_gtr) ?_
          refine OD.wk (Wk.as_ (n := 46) (l' := [(4, _), (11, _), (12, _), (13, _), (43, _)]) (S' := (⟨b4, 51, 2, [_, _]⟩ :: ⟨b6, 30, 3, [_, _, _]⟩ :: Sq41)) rfl rfl ⟨lk, lk, lk, lk, lk, trivial⟩) ?_
          refine OD.nil ?_
          refine CD.cond ot (fun hc5 => ?_) (fun hc5 => ?_)
          · have hc5' := hc5
            (try simp only [decide_eq_true_eq, decide_eq_false_iff_not, beq_iff_eq, bne_iff_ne, Bool.not_eq_true', Bool.not_eq_false', Bool.not_eq_true, Bool.not_eq_false, beq_eq_false_iff_ne, ne_eq, bne_eq_false_iff_eq, Bool.and_eq_true, Bool.or_eq_true, Bool.not_not, Bool.and_eq_false_iff, Bool.or_eq_false_iff, Int.not_lt, Int.not_le] at hc5')
            have hlg : 400 < (acc ++ showT l[i] ++ [32]).length := by omega
            have hend := join_long (r := l.drop (i + 1)) hc0 hlg
            rw [hj] at hend
            refine CD.seq ?_
            refine CD.region ?_
            refine OD.still (wants_plain rfl) rfl (still_as rfl opd_const) ?_
            refine OD.still (wants_plain rfl) rfl (still_as rfl opd_const) ?_
            refine OD.wk (Wk.as_ (n := 46) (l' := [(2, _), (3, _)]) (S' := (⟨b4, 51, 2, [_, _]⟩ :: ⟨b6, 30, 3, [_, _, _]⟩ :: Sq41)) rfl rfl ⟨lk, lk, trivial⟩) ?_
            refine OD.nil ?_
            refine CD.ret ?_
            refine ⟨.inr rfl, _, [], List.nil_sublist _, ret_two Tryd.results12 (res_tmp (Nat.le_of_ble_eq_true rfl) lk) (res_tmp (Nat.le_of_ble_eq_true rfl) lk), ?_⟩
            first | (rw [hbig]; exact ⟨rfl, rfl⟩) | (rw [hjf, hend]; exact ⟨rfl, rfl⟩)
          · have hc5' := hc5
            (try simp only [decide_eq_true_eq, decide_eq_false_iff_not, beq_iff_eq, bne_iff_ne, Bool.not_eq_true', Bool.not_eq_false', Bool.not_eq_true, Bool.not_eq_false, beq_eq_false_iff_ne, ne_eq, bne_eq_false_iff_eq, Bool.and_eq_true, Bool.or_eq_true, Bool.not_not, Bool.and_eq_false_iff, Bool.or_eq_false_iff, Int.not_lt, Int.not_le] at hc5')
            have hle : (acc ++ showT l[i] ++ [32]).length ≤ 400 := by omega
            have hnx := join_more (r := l.drop (i + 1)) hc0 hle
            refine CD.skip ?_
            refine CD.region ?_
            refine OD.still (wants_plain rfl) rfl (still_bin rfl ot opd_const (bin_add (wrap_i64 (by omega) (by omega)))) ?_
            refine OD.still (wants_plain rfl) rfl (still_mv rfl ot) ?_
            refine OD.wk (Wk.as_ (n := 46) (l' := [(4, _), (11, _), (12, _), (13, _)]) (S' := (⟨b4, 51, 2, [_, _]⟩ :: ⟨b6, 30, 3, [_, _, _]⟩ :: Sq41)) rfl rfl ⟨lk, lk, lk, lk, trivial⟩) ?_
            refine OD.nil ?_
            refine ⟨((i + 1), (acc ++ showT l[i] ++ [32]), (some ⟨b4, 0, none⟩), ad41, cp41, Sq41), ⟨46, [(4, .v (.pointer (some ⟨b4, 0, none⟩))), (11, .list 3 (l.flatMap cT) l.length), (12, .v (.int .i64 (l.length : Nat))), (13, .v (.int .i64 (((i + 1)) : Nat)))], ((⟨b4, 51, 2, [.v (.pointer ((some ⟨b4, 0, none⟩))), .v (.slice ad41 ((acc ++ showT l[i] ++ [32])).length cp41)]⟩ : Blk) :: Sq41)⟩, ?_, Wk.asS (n := 46) rfl (by repeat (first | exact List.Sublist.refl _ | apply List.Sublist.cons_cons | apply List.Sublist.cons)) ⟨(by (repeat (first | exact look_hit | (apply look_at; focus (first | rfl | (simp; done) | (congr 2; omega))) | (apply look_miss; focus rfl))); done), (by (repeat (first | exact look_hit | (apply look_at; focus (first | rfl | (simp; done) | (congr 2; omega))) | (apply look_miss; focus rfl))); done), (by (repeat (first | exact look_hit | (apply look_at; focus (first | rfl | (simp; done) | (congr 2; omega))) | (apply look_miss; focus rfl))); done), (by (repeat (first | exact look_hit | (apply look_at; focus (first | rfl | (simp; done) | (congr 2; omega))) | (apply look_miss; focus rfl))); done), trivial⟩, (by omega), (hnx.symm.trans hj), hle, (.inr rfl), ho41, rfl⟩
            first | omega | (simp only []; omega)
        · have hc3' := hc3
          (try simp only [decide_eq_true_eq, decide_eq_false_iff_not, beq_iff_eq, bne_iff_ne, Bool.not_eq_true', Bool.not_eq_false', Bool.not_eq_true, Bool.not_eq_false, beq_eq_false_iff_ne, ne_eq, bne_eq_false_iff_eq, Bool.and_eq_true, Bool.or_eq_true, Bool.not_not, Bool.and_eq_false_iff, Bool.or_eq_false_iff, Int.not_lt, Int.not_le] at hc3')
          have hk2 : l[i].k ≠ 2 := by simpa using hc3
          refine CD.seq ?_
          refine CD.region ?_
          refine OD.still (wants_plain rfl) rfl (still_bin rfl ot opd_const bin_eql) ?_
          refine OD.still (wants_plain rfl) rfl (still_as rfl ot) ?_
          refine OD.wk (Wk.as_ (n := 46) (l' := [(4, _), (6, _), (11, _), (12, _), (13, _), (33, _)]) (S' := (⟨b6, 30, 3, [_, _, _]⟩ :: ⟨b4, 51, 2, [_, _]⟩ :: Sr)) rfl rfl ⟨lk, lk, lk, lk, lk, lk, trivial⟩) ?_
          refine OD.nil ?_
          refine CD.cond ot (fun hc4 => ?_) (fun hc4 => ?_)
          · have hc4' := hc4
            (try simp only [decide_eq_true_eq, decide_eq_false_iff_not, beq_iff_eq, bne_iff_ne, Bool.not_eq_true', Bool.not_eq_false', Bool.not_eq_true, Bool.not_eq_false, beq_eq_false_iff_ne, ne_eq, bne_eq_false_iff_eq, Bool.and_eq_true, Bool.or_eq_true, Bool.not_not, Bool.and_eq_false_iff, Bool.or_eq_false_iff, Int.not_lt, Int.not_le] at hc4')
            have hk3 : l[i].k = 3 := by simpa using hc4
            have hel := esc_len l[i].s
            have hes : (replS 39 [39, 39] l[i].s).size ≤ 200000 := by rw [← str_len]; show (escQ l[i].s).length ≤ _; omega
            refine CD.region ?_
            refine OD.still (wants_plain rfl) rfl (still_r1 (mk := fun y => Op.fieldAddr 30 y 1) rfl ot (by first | exact fa_ptr (off := 1) Tryd.runUnderlying30 rfl Tryd.sizeOf9 rfl | exact fa_iptr (off := 1) Tryd.runUnderlying30 rfl Tryd.sizeOf9 rfl)) ?_
            refine OD.still (wants_plain rfl) rfl (still_r1 (mk := Op.load 9) rfl ot (by first | exact ld_blk (k := 0) rfl rfl Tryd.isAgg9 rfl | exact ld_fm cT_len Tryd.isAgg9 (by first | assumption | omega) rfl | exact ld_fm0 cT_len Tryd.isAgg9 (by first | assumption | omega) rfl | exact ld_row (k := 0) cT_len rfl rfl rfl Tryd.isAgg9 (by first | assumption | omega) rfl | exact ld_row0 (k := 0) cT_len rfl rfl rfl Tryd.isAgg9 (by first | assumption | omega) rfl | exact ld_row (k := 1) cT_len rfl rfl rfl Tryd.isAgg9 (by first | assumption | omega) rfl | exact ld_row0 (k := 1) cT_len rfl rfl rfl Tryd.isAgg9 (by first | assumption | omega) rfl | exact ld_i Tryd.isAgg9 rfl)) ?_
            refine OD.callP (wants_plain rfl) rfl rfl rfl Tryd.call21 (repl_vp hG 39 ⟨#[39, 39]⟩ l[i].s (by omega) (by decide)) ⟨ot, opd_const, opd_const, trivial⟩ ?_
            refine OD.still (wants_plain rfl) rfl (still_bin rfl opd_const ot (bin_cat (by show 1 + (replS 39 [39, 39] l[i].s).size ≤ _; omega))) ?_
            refine OD.still (wants_plain rfl) rfl (still_bin rfl ot opd_const (bin_cat (by rw [cat_size]; show 1 + (replS 39 [39, 39] l[i].s).size + 1 ≤ _; omega))) ?_
            have hsh := show_str hk3
            have hshl : (showT l[i]).length ≤ 300000 := by rw [hsh]; first | (show (Lib.itoa l[i].n).length ≤ _; omega) | (rw [str_len, cat_size, cat_size]; show 1 + (replS 39 [39, 39] l[i].s).size + 1 ≤ _; omega) | (rw [str_len]; omega)
            refine OD.call (wants_plain rfl) rfl rfl rfl Tryd.call19 (wstr_vc b4 cpr adr p acc Sr (((⟨#[39]⟩ : ByteArray) ++ replS 39 [39, 39] l[i].s ++ ⟨#[39]⟩)) hp hor (by rw [cat_size, cat_size]; show acc.length + (1 + (replS 39 [39, 39] l[i].s).size + 1) ≤ _; omega)) ⟨ot, ot, trivial⟩ (perm_r11 (A := [_])) ?_
            rintro _ S40 ⟨rfl, ad40, cp40, Sq40, ho40, rfl⟩
            unfold bldB
            refine OD.perm (perm_q11 (A := [_])) ?_
            refine OD.wk (Wk.as_ (n := 46) (l' := [(4, _), (11, _), (12, _), (13, _)]) (S' := (⟨b6, 30, 3, [_, _, _]⟩ :: ⟨b4, 51, 2, [_, _]⟩ :: Sq40)) rfl rfl ⟨lk, lk, lk, lk, trivial⟩) ?_
            refine OD.nil ?_
            refine CD.seq ?_
            refine CD.region ?_
            refine OD.call (wants_plain rfl) rfl rfl rfl Tryd.call22 (wbyte_vc b4 cp40 ad40 _ (acc ++ (((⟨#[39]⟩ : ByteArray) ++ replS 39 [39, 39] l[i].s ++ ⟨#[39]⟩)).data.toList) Sq40 32 (.inr rfl) ho40 (by rw [← hsh]; simp only [List.length_append]; omega)) ⟨ot, opd_const, trivial⟩ (perm_r11 (A := [_])) ?_
            rintro _ S41 ⟨rfl, ad41, cp41, Sq41, ho41, rfl⟩
            unfold bldB
            refine OD.perm (perm_q11 (A := [_])) ?_
            rw [← hsh] at *
            refine OD.wk (Wk.as_ (n := 46) (l' := [(4, _), (11, _), (12, _), (13, _)]) (S' := (⟨b6, 30, 3, [_, _, _]⟩ :: ⟨b4, 51, 2, [_, _]⟩ :: Sq41)) rfl rfl ⟨lk, lk, lk, lk, trivial⟩) ?_
            refine OD.nil ?_
            refine CD.seq ?_
            refine CD.region ?_
            refine OD.call (wants_plain rfl) rfl rfl rfl Tryd.call23 (len_vc b4 _ cp41 ad41 (some ⟨b4, 0, none⟩)) ⟨ot, trivial⟩ (perm_one (k := 1) rfl) ?_
            rintro _ S42 ⟨rfl, rfl⟩
            unfold bldB
            refine OD.still (wants_plain rfl) rfl (still_bin rfl ot opd_const bin_gtr) ?_
            refine OD.wk (Wk.as_ (n := 46) (l' := [(4, _), (11, _), (12, _), (13, _), (43, _)]) (S' := (⟨b4, 51, 2, [_, _]⟩ :: ⟨b6, 30, 3, [_, _, _]⟩ :: Sq41)) rfl rfl ⟨lk, lk, lk, lk, lk, trivial⟩) ?_
            refine OD.nil ?_
            refine CD.cond ot (fun hc5 => ?_) (fun hc5 => ?_)
            · have hc5' := hc5
              (try simp only [decide_eq_true_eq, decide_eq_false_iff_not, beq_iff_eq, bne_iff_ne, Bool.not_eq_true', Bool.not_eq_false', Bool.not_eq_true, Bool.not_eq_false, beq_eq_false_iff_ne, ne_eq, bne_eq_false_iff_eq, Bool.and_eq_true, Bool.or_eq_true, Bool.not_not, Bool.and_eq_false_iff, Bool.or_eq_false_iff, Int.not_lt, Int.not_le] at hc5')
              have hlg : 400 < (acc ++ showT l[i] ++ [32]).length := by omega
              have hend := join_long (r := l.drop (i + 1)) hc0 hlg
              rw [hj] at hend
              refine CD.seq ?_
              refine CD.region ?_
              refine OD.still (wants_plain rfl) rfl (still_as rfl opd_const) ?_
              refine OD.still (wants_plain rfl) rfl (still_as rfl opd_const) ?_
              refine OD.wk (Wk.as_ (n := 46) (l' := [(2, _), (3, _)]) (S' := (⟨b4, 51, 2, [_, _]⟩ :: ⟨b6, 30, 3, [_, _, _]⟩ :: Sq41)) rfl rfl ⟨lk, lk, trivial⟩) ?_
              refine OD.nil ?_
              refine CD.ret ?_
              refine ⟨.inr rfl, _, [], List.nil_sublist _, ret_two Tryd.results12 (res_tmp (Nat.le_of_ble_eq_true rfl) lk) (res_tmp (Nat.le_of_ble_eq_true rfl) lk), ?_⟩
              first | (rw [hbig]; exact ⟨rfl, rfl⟩) | (rw [hjf, hend]; exact ⟨rfl, rfl⟩)
            · have hc5' := hc5
              (try simp only [decide_eq_true_eq, decide_eq_false_iff_not, beq_iff_eq, bne_iff_ne, Bool.not_eq_true', Bool.not_eq_false', Bool.not_eq_true, Bool.not_eq_false, beq_eq_false_iff_ne, ne_eq, bne_eq_false_iff_eq, Bool.and_eq_true, Bool.or_eq_true, Bool.not_not, Bool.and_eq_false_iff, Bool.or_eq_false_iff, Int.not_lt, Int.not_le] at hc5')
              have hle : (acc ++ showT l[i] ++ [32]).length ≤ 400 := by omega
              have hnx := join_more (r := l.drop (i + 1)) hc0 hle
              refine CD.skip ?_
              refine CD.region ?_
              refine OD.still (wants_plain rfl) rfl (still_bin rfl ot opd_const (bin_add (wrap_i64 (by omega) (by omega)))) ?_
              refine OD.still (wants_plain rfl) rfl (still_mv rfl ot) ?_
              refine OD.wk (Wk.as_ (n := 46) (l' := [(4, _), (11, _), (12, _), (13, _)]) (S' := (⟨b4, 51, 2, [_, _]⟩ :: ⟨b6, 30, 3, [_, _, _]⟩ :: Sq41)) rfl rfl ⟨lk, lk, lk, lk, trivial⟩) ?_
              refine OD.nil ?_
              refine ⟨((i + 1), (acc ++ showT l[i] ++ [32]), (some ⟨b4, 0, none⟩), ad41, cp41, Sq41), ⟨46, [(4, .v (.pointer (some ⟨b4, 0, none⟩))), (11, .list 3 (l.flatMap cT) l.length), (12, .v (.int .i64 (l.length : Nat))), (13, .v (.int .i64 (((i + 1)) : Nat)))], ((⟨b4, 51, 2, [.v (.pointer ((some ⟨b4, 0, none⟩))), .v (.slice ad41 ((acc ++ showT l[i] ++ [32])).length cp41)]⟩ : Blk) :: Sq41)⟩, ?_, Wk.asS (n := 46) rfl (by repeat (first | exact List.Sublist.refl _ | apply List.Sublist.cons_cons | apply List.Sublist.cons)) ⟨(by (repeat (first | exact look_hit | (apply look_at; focus (first | rfl | (simp; done) | (congr 2; omega))) | (apply look_miss; focus rfl))); done), (by (repeat (first | exact look_hit | (apply look_at; focus (first | rfl | (simp; done) | (congr 2; omega))) | (apply look_miss; focus rfl))); done), (by (repeat (first | exact look_hit | (apply look_at; focus (first | rfl | (simp; done) | (congr 2; omega))) | (apply look_miss; focus rfl))); done), (by (repeat (first | exact look_hit | (apply look_at; focus (first | rfl | (simp; done) | (congr 2; omega))) | (apply look_miss; focus rfl))); done), trivial⟩, (by omega), (hnx.symm.trans hj), hle, (.inr rfl), ho41, rfl⟩
              first | omega | (simp only []; omega)
          · have hc4' := hc4
            (try simp only [decide_eq_true_eq, decide_eq_false_iff_not, beq_iff_eq, bne_iff_ne, Bool.not_eq_true', Bool.not_eq_false', Bool.not_eq_true, Bool.not_eq_false, beq_eq_false_iff_ne, ne_eq, bne_eq_false_iff_eq, Bool.and_eq_true, Bool.or_eq_true, Bool.not_not, Bool.and_eq_false_iff, Bool.or_eq_false_iff, Int.not_lt, Int.not_le] at hc4')
            have hk3 : l[i].k ≠ 3 := by simpa using hc4
            refine CD.region ?_
            refine OD.still (wants_plain rfl) rfl (still_r1 (mk := fun y => Op.fieldAddr 30 y 1) rfl ot (by first | exact fa_ptr (off := 1) Tryd.runUnderlying30 rfl Tryd.sizeOf9 rfl | exact fa_iptr (off := 1) Tryd.runUnderlying30 rfl Tryd.sizeOf9 rfl)) ?_
            refine OD.still (wants_plain rfl) rfl (still_r1 (mk := Op.load 9) rfl ot (by first | exact ld_blk (k := 0) rfl rfl Tryd.isAgg9 rfl | exact ld_fm cT_len Tryd.isAgg9 (by first | assumption | omega) rfl | exact ld_fm0 cT_len Tryd.isAgg9 (by first | assumption | omega) rfl | exact ld_row (k := 0) cT_len rfl rfl rfl Tryd.isAgg9 (by first | assumption | omega) rfl | exact ld_row0 (k := 0) cT_len rfl rfl rfl Tryd.isAgg9 (by first | assumption | omega) rfl | exact ld_row (k := 1) cT_len rfl rfl rfl Tryd.isAgg9 (by first | assumption | omega) rfl | exact ld_row0 (k := 1) cT_len rfl rfl rfl Tryd.isAgg9 (by first | assumption | omega) rfl | exact ld_i Tryd.isAgg9 rfl)) ?_
            have hsh := show_txt hk2 hk3
            have hshl : (showT l[i]).length ≤ 300000 := by rw [hsh]; first | (show (Lib.itoa l[i].n).length ≤ _; omega) | (rw [str_len, cat_size, cat_size]; show 1 + (replS 39 [39, 39] l[i].s).size + 1 ≤ _; omega) | (rw [str_len]; omega)
            refine OD.call (wants_plain rfl) rfl rfl rfl Tryd.call19 (wstr_vc b4 cpr adr p acc Sr (l[i].s) hp hor (by omega)) ⟨ot, ot, trivial⟩ (perm_r11 (A := [_])) ?_
            rintro _ S26 ⟨rfl, ad26, cp26, Sq26, ho26, rfl⟩
            unfold bldB
            refine OD.perm (perm_q11 (A := [_])) ?_
            refine OD.wk (Wk.as_ (n := 46) (l' := [(4, _), (11, _), (12, _), (13, _)]) (S' := (⟨b6, 30, 3, [_, _, _]⟩ :: ⟨b4, 51, 2, [_, _]⟩ :: Sq26)) rfl rfl ⟨lk, lk, lk, lk, trivial⟩) ?_
            refine OD.nil ?_
            refine CD.seq ?_
            refine CD.region ?_
            refine OD.call (wants_plain rfl) rfl rfl rfl Tryd.call22 (wbyte_vc b4 cp26 ad26 _ (acc ++ (l[i].s).data.toList) Sq26 32 (.inr rfl) ho26 (by rw [← hsh]; simp only [List.length_append]; omega)) ⟨ot, opd_const, trivial⟩ (perm_r11 (A := [_])) ?_
            rintro _ S41 ⟨rfl, ad41, cp41, Sq41, ho41, rfl⟩
            unfold bldB
            refine OD.perm (perm_q11 (A := [_])) ?_
            rw [← hsh] at *
            refine OD.wk (Wk.as_ (n := 46) (l' := [(4, _), (11, _), (12, _), (13, _)]) (S' := (⟨b6, 30, 3, [_, _, _]⟩ :: ⟨b4, 51, 2, [_, _]⟩ :: Sq41)) rfl rfl ⟨lk, lk, lk, lk, trivial⟩) ?_
            refine OD.nil ?_
            refine CD.seq ?_
            refine CD.region ?_
            refine OD.call (wants_plain rfl) rfl rfl rfl Tryd.call23 (len_vc b4 _ cp41 ad41 (some ⟨b4, 0, none⟩)) ⟨ot, trivial⟩ (perm_one (k := 1) rfl) ?_
            rintro _ S42 ⟨rfl, rfl⟩
            unfold bldB
            refine OD.still (wants_plain rfl) rfl (still_bin rfl ot opd_const bin_gtr) ?_
            refine OD.wk (Wk.as_ (n := 46) (l' := [(4, _), (11, _), (12, _), (13, _), (43, _)]) (S' := (⟨b4, 51, 2, [_, _]⟩ :: ⟨b6, 30, 3, [_, _, _]⟩ :: Sq41)) rfl rfl ⟨lk, lk, lk, lk, lk, trivial⟩) ?_
            refine OD.nil ?_
            refine CD.cond ot (fun hc5 => ?_) (fun hc5 => ?_)
            · have hc5' := hc5
              (try simp only [decide_eq_true_eq, decide_eq_false_iff_not, beq_iff_eq, bne_iff_ne, Bool.not_eq_true', Bool.not_eq_false', Bool.not_eq_true, Bool.not_eq_false, beq_eq_false_iff_ne, ne_eq, bne_eq_false_iff_eq, Bool.and_eq_true, Bool.or_eq_true, Bool.not_not, Bool.and_eq_false_iff, Bool.or_eq_false_iff, Int.not_lt, Int.not_le] at hc5')
              have hlg : 400 < (acc ++ showT l[i] ++ [32]).length := by omega
              have hend := join_long (r := l.drop (i + 1)) hc0 hlg
              rw [hj] at hend
              refine CD.seq ?_
              refine CD.region ?_
              refine OD.still (wants_plain rfl) rfl (still_as rfl opd_const) ?_
              refine OD.still (wants_plain rfl) rfl (still_as rfl opd_const) ?_
              refine OD.wk (Wk.as_ (n := 46) (l' := [(2, _), (3, _)]) (S' := (⟨b4, 51, 2, [_, _]⟩ :: ⟨b6, 30, 3, [_, _, _]⟩ :: Sq41)) rfl rfl ⟨lk, lk, trivial⟩) ?_
              refine OD.nil ?_
              refine CD.ret ?_
              refine ⟨.inr rfl, _, [], List.nil_sublist _, ret_two Tryd.results12 (res_tmp (Nat.le_of_ble_eq_true rfl) lk) (res_tmp (Nat.le_of_ble_eq_true rfl) lk), ?_⟩
              first | (rw [hbig]; exact ⟨rfl, rfl⟩) | (rw [hjf, hend]; exact ⟨rfl, rfl⟩)
            · have hc5' := hc5
              (try simp only [decide_eq_true_eq, decide_eq_false_iff_not, beq_iff_eq, bne_iff_ne, Bool.not_eq_true', Bool.not_eq_false', Bool.not_eq_true, Bool.not_eq_false, beq_eq_false_iff_ne, ne_eq, bne_eq_false_iff_eq, Bool.and_eq_true, Bool.or_eq_true, Bool.not_not, Bool.and_eq_false_iff, Bool.or_eq_false_iff, Int.not_lt, Int.not_le] at hc5')
              have hle : (acc ++ showT l[i] ++ [32]).length ≤ 400 := by omega
              have hnx := join_more (r := l.drop (i + 1)) hc0 hle
              refine CD.skip ?_
              refine CD.region ?_
              refine OD.still (wants_plain rfl) rfl (still_bin rfl ot opd_const (bin_add (wrap_i64 (by omega) (by omega)))) ?_
              refine OD.still (wants_plain rfl) rfl (still_mv rfl ot) ?_
              refine OD.wk (Wk.as_ (n := 46) (l' := [(4, _), (11, _), (12, _), (13, _)]) (S' := (⟨b4, 51, 2, [_, _]⟩ :: ⟨b6, 30, 3, [_, _, _]⟩ :: Sq41)) rfl rfl ⟨lk, lk, lk, lk, trivial⟩) ?_
              refine OD.nil ?_
              refine ⟨((i + 1), (acc ++ showT l[i] ++ [32]), (some ⟨b4, 0, none⟩), ad41, cp41, Sq41), ⟨46, [(4, .v (.pointer (some ⟨b4, 0, none⟩))), (11, .list 3 (l.flatMap cT) l.length), (12, .v (.int .i64 (l.length : Nat))), (13, .v (.int .i64 (((i + 1)) : Nat)))], ((⟨b4, 51, 2, [.v (.pointer ((some ⟨b4, 0, none⟩))), .v (.slice ad41 ((acc ++ showT l[i] ++ [32])).length cp41)]⟩ : Blk) :: Sq41)⟩, ?_, Wk.asS (n := 46) rfl (by repeat (first | exact List.Sublist.refl _ | apply List.Sublist.cons_cons | apply List.Sublist.cons)) ⟨(by (repeat (first | exact look_hit | (apply look_at; focus (first | rfl | (simp; done) | (congr 2; omega))) | (apply look_miss; focus rfl))); done), (by (repeat (first | exact look_hit | (apply look_at; focus (first | rfl | (simp; done) | (congr 2; omega))) | (apply look_miss; focus rfl))); done), (by (repeat (first | exact look_hit | (apply look_at; focus (first | rfl | (simp; done) | (congr 2; omega))) | (apply look_miss; focus rfl))); done), (by (repeat (first | exact look_hit | (apply look_at; focus (first | rfl | (simp; done) | (congr 2; omega))) | (apply look_miss; focus rfl))); done), trivial⟩, (by omega), (hnx.symm.trans hj), hle, (.inr rfl), ho41, rfl⟩
              first | omega | (simp only []; omega)
    · have hc1' := hc1
      (try simp only [decide_eq_true_eq, decide_eq_false_iff_not, beq_iff_eq, bne_iff_ne, Bool.not_eq_true', Bool.not_eq_false', Bool.not_eq_true, Bool.not_eq_false, beq_eq_false_iff_ne, ne_eq, bne_eq_false_iff_eq, Bool.and_eq_true, Bool.or_eq_true, Bool.not_not, Bool.and_eq_false_iff, Bool.or_eq_false_iff, Int.not_lt, Int.not_le] at hc1')
      have hie : i = l.length := by omega
      have hend : joinG l [] = (acc, 0) := by rw [← hj, hie, List.drop_length]; rfl
      refine CD.exit ?_
      refine CD.seq ?_
      refine CD.region ?_
      refine OD.bldString (p := p) (ad := adr) (n := acc.length) (cap := cpr) (Sq := Sr) (R := []) (bs := acc) (wants_plain rfl) rfl rfl Tryd.call24 hS00 ot (by rw [List.append_nil]; exact List.Perm.refl _) hp hor rfl (fun B w hB hw => (Tryd.Builder_String_any_f B b4 acc w hB hw).mono fun ex w' ⟨g1, g2, g3⟩ => ⟨g1, g3⟩) rfl rfl ?_
      refine OD.still (wants_plain rfl) rfl (still_as rfl ot) ?_
      refine OD.still (wants_plain rfl) rfl (still_as rfl opd_const) ?_
      refine OD.wk (Wk.as_ (n := 46) (l' := [(2, _), (3, _)]) (S' := []) rfl rfl ⟨lk, lk, trivial⟩) ?_
      refine OD.nil ?_
      refine CD.ret ?_
      refine ⟨.inr rfl, _, [], List.nil_sublist _, ret_two Tryd.results12 (res_tmp (Nat.le_of_ble_eq_true rfl) lk) (res_tmp (Nat.le_of_ble_eq_true rfl) lk), ?_⟩
      first | (rw [hbig]; exact ⟨rfl, rfl⟩) | (rw [hjf, hend]; exact ⟨rfl, rfl⟩)

end Go.Proofs.YtdlcfkkkjklanaaDoor.Lx

namespace Go.Proofs.YtdlcfkkkjklanaaDoor.Lx
open Go.RowKit V Go.Proofs.YtdlcfkkkjklanaaDoor.Nm Go.Proofs.YtdlcfkkkjklanaaDoor.Pk Go.Proofs.YtdlcfkkkjklanaaDoor.Bs Go.Proofs.YtdlcfkkkjklanaaDoor.Rp
set_option linter.unusedVariables false
set_option linter.unusedSimpArgs false

def escL (l : List UInt8) : List UInt8 := l.flatMap fun b => if b = 39 then [39, 39] else [b]
theorem esc_L (s : ByteArray) : escQ s = escL s.data.toList := rfl
theorem text_esc : ∀ (l acc r : List UInt8) (i : Nat), (∀ c r', r = c :: r' → c ≠ 39) → textG (escL l ++ 39 :: r) acc i = (⟨3, ⟨(acc ++ l).toArray⟩, 0⟩, i + (escL l).length + 1, 0)
  | [], acc, r, i, hr => by
    show textG (39 :: r) acc i = _
    cases r with
    | nil => rw [textG, if_pos rfl]; simp [escL]
    | cons d r' => rw [textG, if_pos rfl, if_neg (hr d r' rfl)]; simp [escL]
  | b :: l, acc, r, i, hr => by
    by_cases hb : b = 39
    · subst hb
      have e : escL (39 :: l) = 39 :: 39 :: escL l := rfl
      rw [e]
      show textG (39 :: 39 :: (escL l ++ 39 :: r)) acc i = _
      rw [textG, if_pos rfl, if_pos rfl, text_esc l (acc ++ [39]) r (i + 2) hr]
      simp; omega
    · have e : escL (b :: l) = b :: escL l := by unfold escL; rw [List.flatMap_cons, if_neg hb]; rfl
      rw [e]
      obtain ⟨c, q, hcq⟩ : ∃ c q, escL l ++ 39 :: r = c :: q := by cases h : escL l ++ 39 :: r with | nil => simp at h | cons c q => exact ⟨c, q, rfl⟩
      show textG (b :: (escL l ++ 39 :: r)) acc i = _
      rw [hcq, textG, if_neg hb, ← hcq, text_esc l (acc ++ [b]) r (i + 1) hr]
      simp; omega
theorem one_quote {l r : List UInt8} (hr : ∀ c r', r = c :: r' → c ≠ 39) : oneF (39 :: (escL l ++ 39 :: r)) = (⟨3, ⟨l.toArray⟩, 0⟩, (escL l).length + 2, 0) := by
  unfold oneF
  have e : (39 :: (escL l ++ 39 :: r)).getD 0 0 = (39 : UInt8) := rfl
  rw [e, if_neg (by decide), if_neg (by decide), if_pos rfl]
  show textG (escL l ++ 39 :: r) [] 1 = _
  rw [text_esc l [] r 1 hr]
  simp; omega
theorem escL_len (l : List UInt8) : (escL l).length ≤ 2 * l.length := by
  unfold escL
  induction l with
  | nil => simp
  | cons a l ih =>
    rw [List.flatMap_cons, List.length_append, List.length_cons]
    have : (if a = 39 then [39, 39] else [a] : List UInt8).length ≤ 2 := by split <;> simp
    omega
/-! ### LexMany -/
variable {G : List (Nat × List Value)} {m : Int}
set_option maxHeartbeats 4000000 in
set_option maxRecDepth 100000 in
theorem cutS_vp (s : ByteArray) (m : Nat) (hs : s.size ≤ maxLen) : VP Tryd.prog G 14 [.v (.string s), .v (.int .i64 (m : Int))] (.v (.string (s.extract 0 (min s.size m)))) := by
  refine VC.body Tryd.func14 rfl Tryd.ntmps14 (Nat.le_of_ble_eq_true rfl) fun X0 w0 S00 => ?_
  simp only [maxLen] at hs
  refine CD.seq ?_
  refine CD.region ?_
  refine OD.still (wants_plain rfl) rfl (still_as rfl opd_const) ?_
  refine OD.wk (Wk.as_ (n := 11) (l' := [(0, _), (1, _)]) (S' := []) rfl rfl ⟨lk, lk, trivial⟩) ?_
  refine OD.nil ?_
  refine CD.seq ?_
  refine CD.region ?_
  refine OD.still (wants_plain rfl) rfl (still_mv rfl ot) ?_
  refine OD.still (wants_plain rfl) rfl (still_mv rfl ot) ?_
  refine OD.still (wants_plain rfl) rfl (still_slen rfl rfl ot Tryd.runUnderlying9) ?_
  refine OD.still (wants_plain rfl) rfl (still_mv rfl ot) ?_
  refine OD.still (wants_plain rfl) rfl (still_minmax (r := .int .i64 ((min s.size m : Nat) : Int)) rfl ot ot (fun cs w => (mm_min cs w).trans (by split <;> (congr 3; omega)))) ?_
  refine OD.still (wants_plain rfl) rfl (still_rs (l := 0) rfl ot trivial ⟨_, ot⟩ (by first | exact sl_str (fun _ => rfl) (fun h => by cases h) Tryd.runUnderlying9 (by omega) (by omega))) ?_
  refine OD.still (wants_plain rfl) rfl (still_as rfl ot) ?_
  refine OD.wk (Wk.as_ (n := 11) (l' := [(4, _)]) (S' := []) rfl rfl ⟨lk, trivial⟩) ?_
  refine OD.nil ?_
  refine CD.ret ?_
  refine ⟨.inr rfl, _, [], List.nil_sublist _, ret_one Tryd.results14 (res_tmp (Nat.le_of_ble_eq_true rfl) lk), ?_⟩
  exact ⟨by first | rfl | (simp [*]; done), rfl⟩

end Go.Proofs.YtdlcfkkkjklanaaDoor.Lx

namespace Go.Proofs.YtdlcfkkkjklanaaDoor.Lx
open Go.RowKit V Go.Proofs.YtdlcfkkkjklanaaDoor.Nm Go.Proofs.YtdlcfkkkjklanaaDoor.Pk Go.Proofs.YtdlcfkkkjklanaaDoor.Bs Go.Proofs.YtdlcfkkkjklanaaDoor.Rp
set_option linter.unusedVariables false
set_option linter.unusedSimpArgs false

theorem digit_nat {u : Nat} (h : u < 10) : (UInt8.ofNat (48 + u)).toNat = 48 + u := by
  rw [UInt8.toNat_ofNat']
  exact Nat.mod_eq_of_lt (by omega)
theorem digit_ofNat {u : Nat} (h : u < 10) : digitB (UInt8.ofNat (48 + u)) = true := by
  unfold digitB; rw [digit_nat h]; simp; omega
theorem dec_all : ∀ (u : Nat), ∀ c ∈ Lib.decDigits u, digitB c = true := fun u => by
  induction u using Nat.strongRecOn with
  | _ u ih =>
    intro c hc
    rw [Lib.decDigits] at hc
    split at hc
    · rename_i h
      rw [List.mem_singleton] at hc; subst hc; exact digit_ofNat h
    · rename_i h
      rcases List.mem_append.1 hc with hc | hc
      · exact ih (u / 10) (by omega) c hc
      · rw [List.mem_singleton] at hc; subst hc; exact digit_ofNat (Nat.mod_lt _ (by decide))
theorem dec_ne (u : Nat) : Lib.decDigits u ≠ [] := by
  rw [Lib.decDigits]
  split <;> simp
theorem parse_step {a u : Nat} {l : List UInt8} (hu : u < 10) (h : a * 10 + u < 18446744073709551616) : Lib.parseUint10 a (UInt8.ofNat (48 + u) :: l) = Lib.parseUint10 (a * 10 + u) l := by
  rw [Lib.parseUint10, digit_nat hu, if_pos (by omega), if_neg (by omega), if_neg (by omega), Nat.add_sub_cancel_left]
theorem parse_dec : ∀ (u a : Nat) (l : List UInt8), a * 10 ^ (Lib.decDigits u).length + u < 18446744073709551616 → Lib.parseUint10 a (Lib.decDigits u ++ l) = Lib.parseUint10 (a * 10 ^ (Lib.decDigits u).length + u) l := fun u => by
  induction u using Nat.strongRecOn with
  | _ u ih =>
    intro a l
    rw [Lib.decDigits]
    split
    · rename_i h
      intro hb
      show Lib.parseUint10 a (UInt8.ofNat (48 + u) :: l) = _
      have e : a * 10 ^ [UInt8.ofNat (48 + u)].length + u = a * 10 + u := by simp
      rw [e] at hb ⊢
      exact parse_step h hb
    · rename_i h
      rw [List.length_append, List.length_singleton, Nat.pow_succ, ← Nat.mul_assoc]
      generalize hX : a * 10 ^ (Lib.decDigits (u / 10)).length = X
      intro hb
      rw [List.append_assoc, ih (u / 10) (by omega) a _ (by rw [hX]; omega), hX]
      show Lib.parseUint10 (X + u / 10) (UInt8.ofNat (48 + u % 10) :: l) = _
      rw [parse_step (Nat.mod_lt _ (by decide)) (by omega)]
      congr 1
      omega
theorem atoi_dec {u : Nat} (h : u < 9223372036854775808) : Lib.atoiAll (Lib.decDigits u) = .ok (u : Int) := by
  have hp : Lib.parseUint10 0 (Lib.decDigits u) = .ok u := by
    have := parse_dec u 0 [] (by rw [Nat.zero_mul]; omega)
    rw [List.append_nil, Nat.zero_mul, Nat.zero_add] at this
    rw [this]; rfl
  have hall := dec_all u
  have hne := dec_ne u
  generalize Lib.decDigits u = l at *
  match l, hne with
  | c :: r, _ =>
    have hc := hall c List.mem_cons_self
    simp only [digitB, decide_eq_true_eq] at hc
    have hm : Lib.parseMag (c :: r) = .ok u := by unfold Lib.parseMag; rw [if_neg (by simp), hp]
    unfold Lib.atoiAll
    simp only
    rw [if_neg (by omega), hm]
    simp only
    rw [if_neg (by omega), if_neg (by omega), if_neg (by omega)]
theorem itoa_dec {n : Int} (h : 0 ≤ n) : Lib.itoa n = Lib.decDigits n.toNat := by unfold Lib.itoa; rw [if_neg (by omega)]

/-! ### Tokens of raw numbers -/
structure Pc where
  k : Int
  n : Int
  s : ByteArray
structure Pc.Ok (p : Pc) : Prop where
  k1 : -9223372036854775808 ≤ p.k
  k2 : p.k ≤ 9223372036854775807
  n1 : -9223372036854775808 ≤ p.n
  n2 : p.n ≤ 9223372036854775807
  s : p.s.size ≤ maxLen
def cP (p : Pc) : List D := [.v (.int .i64 p.k), .v (.int .i64 p.n), .v (.string p.s)]
theorem cP_len (p : Pc) : (cP p).length = 3 := rfl
def mkB : List (List UInt8) := [[40], [41], [44], [42], [43], [45], [61], [60], [62], [60, 61], [62, 61], [60, 62]]
def mkL : List ByteArray := mkB.map fun b => ⟨b.toArray⟩
def cut8 (s : ByteArray) : ByteArray := s.extract 0 (min s.size 8)
theorem cut8_size (s : ByteArray) : (cut8 s).size ≤ 8 := by
  rw [← str_len]
  unfold cut8
  rw [ByteArray.data_extract, Array.toList_extract]
  simp only [List.extract_eq_take_drop, List.drop_zero, Nat.sub_zero, List.length_take]
  omega
def tokenF (p : Pc) : Tk :=
  if pickedF p.k 4 = 1 then ⟨2, ⟨#[]⟩, pickedF p.n 4611686018427387904⟩
  else if pickedF p.k 4 = 2 then ⟨3, cut8 p.s, 0⟩
  else if pickedF p.k 4 = 3 then ⟨4, mkL.getD (pickedF p.n 12).toNat ⟨#[]⟩, 0⟩
  else ⟨1, wordF p.s, 0⟩
/-- What a token of raw numbers may be. -/
inductive GoodT : Tk → Prop
  | num (u : Nat) (h : u < 9223372036854775808) : GoodT ⟨2, ⟨#[]⟩, (u : Int)⟩
  | str (s : ByteArray) (h : s.size ≤ 8) : GoodT ⟨3, s, 0⟩
  | mark (b : List UInt8) (h : b ∈ mkB) : GoodT ⟨4, ⟨b.toArray⟩, 0⟩
  | word (s : ByteArray) : GoodT ⟨1, wordF s, 0⟩
theorem token_good (p : Pc) : GoodT (tokenF p) := by
  unfold tokenF
  split
  · obtain ⟨h1, h2⟩ := pickedF_bd p.n (by decide : (1 : Int) ≤ 4611686018427387904)
    obtain ⟨u, hu⟩ := Int.eq_ofNat_of_zero_le h1
    rw [hu]
    exact .num u (by omega)
  · split
    · exact .str _ (cut8_size _)
    · split
      · obtain ⟨h1, h2⟩ := pickedF_bd p.n (by decide : (1 : Int) ≤ 12)
        have hi : (pickedF p.n 12).toNat < mkB.length := by show _ < 12; omega
        have e : mkL.getD (pickedF p.n 12).toNat ⟨#[]⟩ = ⟨(mkB[(pickedF p.n 12).toNat]).toArray⟩ := by
          rw [List.getD_eq_getElem?_getD, List.getElem?_eq_getElem (by simpa [mkL] using hi)]
          simp [mkL]
        rw [e]
        exact .mark _ (List.getElem_mem _)
      · exact .word _
theorem mark_check : ∀ b ∈ mkB, checkT ⟨4, ⟨b.toArray⟩, 0⟩ = 0 := by decide +kernel
theorem ends_32 (r : List UInt8) : Ends wordB (32 :: r) := fun c r' e => by cases e; decide
theorem span_all {p : UInt8 → Bool} {s : ByteArray} (h : ∀ c ∈ s.data.toList, p c = true) : spanN p s = s.size := by
  unfold spanN
  rw [← str_len]
  have := tw_ends (p := p) (u := s.data.toList) (r := []) h (ends_nil p)
  rw [List.append_nil] at this
  rw [this]
theorem GoodT.check {t : Tk} (h : GoodT t) : checkT t = 0 := by
  cases h with
  | num u h =>
    unfold checkT
    simp only
    rw [if_neg (by decide), if_pos trivial, if_neg (by omega)]
    rfl
  | str s h => rfl
  | mark b h => exact mark_check b h
  | word s =>
    obtain ⟨w1, w2, w3⟩ := word_letters s
    rw [check_word]
    have hall : ∀ c ∈ (wordF s).data.toList, wordB c = true := fun c hc => by unfold wordB; rw [w1 c hc]; rfl
    have h0 : letterB (byteAt (wordF s) 0) = true := hd_getD (p := letterB) (u := wordL s) w1 w2
    have hs : 0 < (wordF s).size := by rw [← str_len]; exact List.length_pos_iff.2 w2
    have : okWord (wordF s) = true := by
      unfold okWord
      rw [h0, span_all hall]
      have : decide ((wordF s).size = 0) = false := decide_eq_false (by omega)
      rw [this]; simp
    rw [if_pos this]
theorem mark_one : ∀ b ∈ mkB, ∀ r : List UInt8, oneF (b ++ 32 :: r) = (⟨4, ⟨b.toArray⟩, 0⟩, b.length, 0) := by
  intro b hb r
  simp only [mkB, List.mem_cons, List.not_mem_nil, or_false] at hb
  rcases hb with rfl | rfl | rfl | rfl | rfl | rfl | rfl | rfl | rfl | rfl | rfl | rfl <;> (unfold oneF; simp [letterB, digitB, markL, marksB, List.isPrefixOf])
/-- A token shown, with a blank behind it, is cut as that token. -/
theorem GoodT.one {t : Tk} (h : GoodT t) (r : List UInt8) : oneF (showT t ++ 32 :: r) = (t, (showT t).length, 0) := by
  cases h with
  | num u h =>
    have e : showT ⟨2, ⟨#[]⟩, (u : Int)⟩ = Lib.decDigits u := by rw [show_num rfl, itoa_dec (by show (0 : Int) ≤ (u : Int); omega)]; rfl
    rw [e]
    exact one_num_l (dec_ne u) (dec_all u) (ends_32 r) (atoi_dec h)
  | str s h =>
    have e : showT ⟨3, s, 0⟩ = 39 :: (escL s.data.toList ++ [39]) := by unfold showT; rw [if_neg (show ¬ (3 : Int) = 2 by decide), if_pos rfl, esc_L]; simp
    rw [e]
    have := one_quote (l := s.data.toList) (r := 32 :: r) (fun c r' e => by cases e; decide)
    rw [show 39 :: (escL s.data.toList ++ [39]) ++ 32 :: r = 39 :: (escL s.data.toList ++ 39 :: (32 :: r)) by simp, this]
    simp
  | mark b hb =>
    have e : showT ⟨4, ⟨b.toArray⟩, 0⟩ = b := rfl
    rw [e]
    exact mark_one b hb r
  | word s =>
    obtain ⟨w1, w2, w3⟩ := word_letters s
    have e : showT ⟨1, wordF s, 0⟩ = wordL s := rfl
    rw [e]
    exact one_word_l (hd_getD (p := letterB) w1 w2) w2 (fun c hc => by unfold wordB; rw [w1 c hc]; rfl) (ends_32 r)
/-- It begins with no blank, and is not long. -/
theorem GoodT.head {t : Tk} (h : GoodT t) : (∃ c r, showT t = c :: r ∧ blankB c = false) ∧ (showT t).length ≤ 21 := by
  cases h with
  | num u h =>
    have e : showT ⟨2, ⟨#[]⟩, (u : Int)⟩ = Lib.decDigits u := by rw [show_num rfl, itoa_dec (by show (0 : Int) ≤ (u : Int); omega)]; rfl
    have hl := Lib.itoa_length_le (u : Int) (by omega) (by omega)
    rw [itoa_dec (by omega)] at hl
    refine ⟨?_, by rw [e]; simpa using hl⟩
    rw [e]
    cases hd : Lib.decDigits u with
    | nil => exact absurd hd (dec_ne u)
    | cons c r => exact ⟨c, r, rfl, digit_blank (dec_all u c (by rw [hd]; exact List.mem_cons_self))⟩
  | str s h =>
    have e : showT ⟨3, s, 0⟩ = 39 :: (escL s.data.toList ++ [39]) := by unfold showT; rw [if_neg (show ¬ (3 : Int) = 2 by decide), if_pos rfl, esc_L]; simp
    have hl := escL_len s.data.toList
    rw [str_len] at hl
    exact ⟨⟨39, _, e, by decide⟩, by rw [e]; simp; omega⟩
  | mark b hb =>
    have e : showT ⟨4, ⟨b.toArray⟩, 0⟩ = b := rfl
    rw [e]
    simp only [mkB, List.mem_cons, List.not_mem_nil, or_false] at hb
    rcases hb with rfl | rfl | rfl | rfl | rfl | rfl | rfl | rfl | rfl | rfl | rfl | rfl <;> exact ⟨⟨_, _, rfl, by decide⟩, by decide⟩
  | word s =>
    obtain ⟨w1, w2, w3⟩ := word_letters s
    have e : showT ⟨1, wordF s, 0⟩ = wordL s := rfl
    rw [e]
    refine ⟨?_, by omega⟩
    cases hd : wordL s with
    | nil => exact absurd hd w2
    | cons c r => exact ⟨c, r, rfl, letter_blank (w1 c (by rw [hd]; exact List.mem_cons_self))⟩
/-- Tokens shown one behind the other, a blank and more blanks behind each. -/
def showsL (bl : List UInt8) (ts : List Tk) : List UInt8 := ts.flatMap fun t => showT t ++ 32 :: bl
theorem drop_blanks {u r : List UInt8} (hu : ∀ c ∈ u, blankB c = true) (hr : Ends blankB r) : (u ++ r).dropWhile blankB = r ∧ ((u ++ r).takeWhile blankB).length = u.length := ⟨dw_ends hu hr, by rw [tw_ends hu hr]⟩
/-- What was joined is cut again, whatever stands behind it. -/
theorem cut_shows (bl : List UInt8) (hbl : ∀ c ∈ bl, blankB c = true) (rest : List UInt8) : ∀ (ts : List Tk) (u : List UInt8) (n a : Nat) (acc : List Tk), (∀ t ∈ ts, GoodT t) → (∀ c ∈ u, blankB c = true) → acc.length + ts.length ≤ 99 → (u ++ showsL bl ts).length ≤ n →
    ∃ u' m a', (∀ c ∈ u', blankB c = true) ∧ n ≤ m + (u ++ showsL bl ts).length ∧ a' + u'.length = a + (u ++ showsL bl ts).length ∧ cutG (n + 1) (u ++ (showsL bl ts ++ rest)) a acc = cutG (m + 1) (u' ++ rest) a' (acc ++ ts)
  | [], u, n, a, acc, _, hu, _, _ => ⟨u, n, a, hu, Nat.le_add_right _ _, by simp [showsL], by simp [showsL]⟩
  | t :: ts, u, n, a, acc, hg, hu, hl, hn => by
    have ht := hg t List.mem_cons_self
    obtain ⟨⟨c, r, hcr, hcb⟩, hlen⟩ := ht.head
    have e : showsL bl (t :: ts) = showT t ++ 32 :: (bl ++ showsL bl ts) := by unfold showsL; rw [List.flatMap_cons]; simp
    have hlen2 : (u ++ showsL bl (t :: ts)).length = u.length + (showT t).length + 1 + bl.length + (showsL bl ts).length := by rw [e]; simp; omega
    rw [hlen2] at hn ⊢
    have hpos : 1 ≤ (showT t).length := by rw [hcr]; simp
    obtain ⟨d1, d2⟩ := drop_blanks (r := showsL bl (t :: ts) ++ rest) hu (fun c' r' e' => by rw [e, hcr] at e'; cases e'; exact hcb)
    have ho : oneF (showsL bl (t :: ts) ++ rest) = (t, (showT t).length, 0) := by
      rw [e, List.append_assoc]; exact ht.one (bl ++ showsL bl ts ++ rest)
    obtain ⟨n, rfl⟩ : ∃ k, n = k + 1 := ⟨n - 1, by omega⟩
    have hstep := cut_next (n := n + 1) (a := a) (l := u ++ (showsL bl (t :: ts) ++ rest)) (acc := acc) (by rw [d1, e, hcr]; simp) (by simp at hl; omega) (by rw [d1, ho])
    rw [d1, d2, ho] at hstep
    have hdrop : (showsL bl (t :: ts) ++ rest).drop (showT t).length = (32 :: bl) ++ (showsL bl ts ++ rest) := by
      rw [e, show showT t ++ 32 :: (bl ++ showsL bl ts) ++ rest = showT t ++ ((32 :: bl) ++ (showsL bl ts ++ rest)) by simp]
      exact List.drop_left
    rw [show (t, (showT t).length, (0 : Int)).2.1 = (showT t).length from rfl, hdrop] at hstep
    obtain ⟨u', m, a', q1, q2, q3, q4⟩ := cut_shows bl hbl rest ts (32 :: bl) n (a + u.length + (showT t).length) (acc ++ [t]) (fun x hx => hg x (List.mem_cons_of_mem _ hx)) (fun c hc => by rcases List.mem_cons.1 hc with rfl | hc; decide; exact hbl c hc) (by simp at hl ⊢; omega) (by simp; omega)
    refine ⟨u', m, a', q1, ?_, ?_, ?_⟩
    · simp at q2; omega
    · simp at q3; omega
    · rw [hstep, q4]; simp

end Go.Proofs.YtdlcfkkkjklanaaDoor.Lx

namespace Go.Proofs.YtdlcfkkkjklanaaDoor.V
open Go.RowKit
set_option linter.unusedVariables false

variable {H : Type} {enc : TypeId × Value → H} {P : Program} {w : World} {base : Nat} {sp : Nat → Bool} {held : Bool}

/-- The same as Rds, read no deeper than so. -/
def RdsF (fuel : Nat) (enc : TypeId × Value → H) (P : Program) (w : World) (base : Nat) (sp : Nat → Bool) (held : Bool) (t : TypeId) {α : Type} (g : α → List D) (ok : α → Prop) : Prop :=
  ∀ cs x, DataW.trod enc P w base sp held fuel t cs = some x → ∃ a, RepL w (fun _ => False) (g a) cs ∧ ok a

theorem Rds.at {t : TypeId} {α : Type} {g : α → List D} {ok : α → Prop} (h : Rds enc P w base sp held t g ok) (n : Nat) : RdsF n enc P w base sp held t g ok := h n

theorem RepL.one {w : World} {L : Nat → Prop} {d : D} {v : Value} (h : Rep w L d v) : RepL w L [d] [v] := ⟨rfl, fun i h1 h2 => by
  have : i = 0 := by simpa using h1
  subst this
  exact h⟩

end Go.Proofs.YtdlcfkkkjklanaaDoor.V

namespace Go.Proofs.YtdlcfkkkjklanaaDoor.Lx
open Go.RowKit V Go.Proofs.YtdlcfkkkjklanaaDoor.Nm Go.Proofs.YtdlcfkkkjklanaaDoor.Pk Go.Proofs.YtdlcfkkkjklanaaDoor.Bs Go.Proofs.YtdlcfkkkjklanaaDoor.Rp
set_option linter.unusedVariables false
set_option linter.unusedSimpArgs false

theorem join_shows : ∀ (ts : List Tk) (acc : List UInt8), (∀ t ∈ ts, GoodT t) → acc.length + (showsL [] ts).length ≤ 400 → joinG ts acc = (acc ++ showsL [] ts, 0)
  | [], acc, _, _ => by simp [joinG, showsL]
  | t :: ts, acc, hg, hl => by
    have e : showsL [] (t :: ts) = showT t ++ [32] ++ showsL [] ts := by unfold showsL; rw [List.flatMap_cons]
    rw [e] at hl
    simp only [List.length_append, List.length_singleton] at hl
    rw [join_more (hg t List.mem_cons_self).check (by simp only [List.length_append, List.length_singleton]; omega), join_shows ts _ (fun x hx => hg x (List.mem_cons_of_mem _ hx)) (by simp only [List.length_append, List.length_singleton]; omega), e]
    simp
theorem shows_len (bl : List UInt8) (hb : bl.length ≤ 2) : ∀ ts : List Tk, (∀ t ∈ ts, GoodT t) → (showsL bl ts).length ≤ 24 * ts.length
  | [], _ => by simp [showsL]
  | t :: ts, hg => by
    have e : showsL bl (t :: ts) = showT t ++ 32 :: bl ++ showsL bl ts := by unfold showsL; rw [List.flatMap_cons]
    have ih := shows_len bl hb ts (fun x hx => hg x (List.mem_cons_of_mem _ hx))
    have := (hg t List.mem_cons_self).head.2
    rw [e]
    simp only [List.length_append, List.length_cons]
    omega
theorem joinF_shows {ts : List Tk} (hg : ∀ t ∈ ts, GoodT t) (hl : ts.length ≤ 15) : joinF ts = (showsL [] ts, 0) := by
  have := shows_len [] (by simp) ts hg
  unfold joinF
  rw [if_neg (by omega), join_shows ts [] hg (by simp; omega)]
  rfl
theorem cutF_bad {ts : List Tk} {c : UInt8} {r : List UInt8} (hg : ∀ t ∈ ts, GoodT t) (hl : ts.length ≤ 12) (hr : (c :: r).length ≤ 30) (hc : blankB c = false) (he : (oneF (c :: r)).2.2 ≠ 0) : cutF (showsL [] ts ++ c :: r) = ([], (showsL [] ts).length, (oneF (c :: r)).2.2) := by
  have := shows_len [] (by simp) ts hg
  unfold cutF
  rw [if_neg (by rw [List.length_append]; omega)]
  obtain ⟨u', m, a', q1, q2, q3, q4⟩ := cut_shows [] (fun c hc => by cases hc) (c :: r) ts [] (showsL [] ts ++ c :: r).length 0 [] hg (fun c hc => by cases hc) (by simp; omega) (by simp)
  simp only [List.nil_append] at q4 q3
  rw [q4]
  obtain ⟨d1, d2⟩ := drop_blanks (u := u') (r := c :: r) q1 (fun c' r' e => by cases e; exact hc)
  have := cut_err (n := m) (a := a') (l := u' ++ c :: r) (acc := ts) (by rw [d1]; simp) (by omega) (by rw [d1]; exact he)
  rw [this, d1, d2]
  have : a' + u'.length = (showsL [] ts).length := by omega
  rw [this]
def badB : List (List UInt8) := [[63], [39, 97], [49, 97], List.replicate 20 57, [47], [0], [59], [39, 39, 39]]
def badL : List ByteArray := badB.map fun b => ⟨b.toArray⟩
def errB : List Int := [6, 7, 6, 5, 6, 6, 6, 7]
def badOk (b : List UInt8) (e : Int) : Bool := match b with | [] => false | c :: r => !blankB c && decide ((oneF (c :: r)).2.2 = e) && decide (e ≠ 0) && decide ((c :: r).length ≤ 30)
theorem bad_all : ∀ x ∈ List.zip badB errB, badOk x.1 x.2 = true := by decide +kernel
theorem bad_at {i : Nat} (h : i < badB.length) (h' : i < errB.length) : ∃ c r, badB[i] = c :: r ∧ blankB c = false ∧ (oneF (c :: r)).2.2 = errB[i] ∧ errB[i] ≠ 0 ∧ (c :: r).length ≤ 30 := by
  have h2 := bad_all (badB[i], errB[i]) (List.mem_iff_getElem.2 ⟨i, by rw [List.length_zip]; omega, List.getElem_zip⟩)
  revert h2
  generalize errB[i] = e
  generalize badB[i] = l
  intro h2
  cases l with
  | nil => cases h2
  | cons c r =>
    simp only [badOk, Bool.and_eq_true, Bool.not_eq_true', decide_eq_true_eq] at h2
    exact ⟨c, r, rfl, h2.1.1.1, h2.1.1.2, h2.1.2, h2.2⟩

/-! ### Contracts -/
theorem itoa_below (w : World) (k : Nat) (os : Array Obj) : Below w.heap.size w (Go.Sort.grow (w.drewN k) os) := by
  refine ⟨rfl, rfl, rfl, ?_, fun i hi => ?_⟩
  · show w.heap.size ≤ (w.heap ++ os).size
    rw [Array.size_append]; omega
  · show (w.heap ++ os)[i]? = w.heap[i]?
    rw [Array.getElem?_append, if_pos hi]
def PW : List Value := [.tuple (Lib.pow10Tab.map fun z => Value.int .u64 z).toArray]
variable {G : List (Nat × List Value)} {m : Int}
theorem itoa_vp (hP : (3, PW) ∈ G) (n : Int) (h0 : -9223372036854775808 ≤ n) (h1 : n ≤ 9223372036854775807) : VP Tryd.prog G 20 [.v (.int .i64 n)] (.v (.string ⟨(Lib.itoa n).toArray⟩)) :=
  VP.ofCalls (P := Tryd.prog) (G := G) (f := 20) (vs := [.int .i64 n]) (v := .string ⟨(Lib.itoa n).toArray⟩) fun w htab => by
    have ht : tabCell w 3 0 (.tuple (Lib.pow10Tab.map fun z => Value.int .u64 z).toArray) := htab (3, PW) hP 0 _ rfl
    obtain ⟨t, fz, hb⟩ := ht
    have hT : Lib.TabIs Tryd.prog w "internal/strconv.uint64pow10" .u64 Lib.pow10Tab := by
      unfold Lib.TabIs World.var?
      have hg : Tryd.prog.globalNamed "internal/strconv.uint64pow10" = some 3 := by kernel_rfl
      rw [hg]
      simp [hb]
    refine (Tryd.strconv_Itoa n h0 h1 w hT).mono fun e w' ⟨h2, k, os, h3⟩ => ⟨h2, ?_⟩
    subst h3
    exact itoa_below w k os
theorem good_num (hP : (3, PW) ∈ G) {ts : List Tk} (hg : ∀ t ∈ ts, GoodT t) : NumOk G ts := fun t ht hk => by
  have h := hg t ht
  cases h with
  | num u h => exact ⟨itoa_vp hP (u : Int) (by omega) (by omega), Nat.le_trans (Lib.itoa_length_le (u : Int) (by omega) (by omega)) (by decide)⟩
  | str s h => exact absurd hk (by show ¬ (3 : Int) = 2; decide)
  | mark b h => exact absurd hk (by show ¬ (4 : Int) = 2; decide)
  | word s => exact absurd hk (by show ¬ (1 : Int) = 2; decide)
theorem good_size {t : Tk} (h : GoodT t) : t.s.size ≤ 100000 := by
  cases h with
  | num u h => show 0 ≤ _; omega
  | str s h => show s.size ≤ _; omega
  | mark b hb => have h2 : ∀ b ∈ mkB, b.length ≤ 2 := (by decide); exact Nat.le_trans (h2 b hb) (by decide)
  | word s => obtain ⟨_, _, w3⟩ := word_letters s; show (wordF s).size ≤ _; rw [← str_len]; show (wordL s).length ≤ _; omega
theorem join_good (hm : (0, marksC) ∈ G) (hG : (4, [Value.int .i64 m]) ∈ G) (hP : (3, PW) ∈ G) {ts : List Tk} (hg : ∀ t ∈ ts, GoodT t) (hl : ts.length ≤ 15) : VP Tryd.prog G 12 [.list 3 (ts.flatMap cT) ts.length] (.tup [.v (.string ⟨(showsL [] ts).toArray⟩), .v (.int .i64 0)]) := by
  have := join_vp hm hG ts (by have hmx : maxLen = 9223372036854775807 := rfl; omega) (fun t ht => good_size (hg t ht)) (good_num hP hg)
  rw [joinF_shows hg hl] at this
  exact this
theorem str_of (l : List UInt8) : (⟨l.toArray⟩ : ByteArray).data.toList = l := rfl
theorem sz_of (l : List UInt8) : (⟨l.toArray⟩ : ByteArray).size = l.length := rfl
theorem places30_Lx7 : ∀ w, ((#[{ name := "Kind", type := 3, offset := 0, embedded := false, tag := "", pkgPath := "", byteOffset := 0 }, { name := "Text", type := 9, offset := 1, embedded := false, tag := "", pkgPath := "", byteOffset := 8 }, { name := "Int", type := 3, offset := 2, embedded := false, tag := "", pkgPath := "", byteOffset := 24 }] : Array Field).mapM fun f => do pure (f.offset, ← sizeOf f.type) : Sem (Array (Nat × Nat))).run Tryd.prog w = .ok #[(0, 1), (1, 1), (2, 1)] w := fun w => by simp [Tryd.sizeOf3, Tryd.sizeOf9]

set_option maxHeartbeats 4000000 in
set_option maxRecDepth 100000 in
theorem Token_vp (p : Pc) (h : p.Ok) : VP Tryd.prog G 11 [.agg (cP p)] (.agg (cT (tokenF p))) := by
  refine VC.body Tryd.func11 rfl Tryd.ntmps11 (Nat.le_of_ble_eq_true rfl) fun X0 w0 S00 => ?_
  unfold cP
  obtain ⟨k1, k2, n1, n2, hs⟩ := h
  have b4 := pickedF_bd p.k (by decide : (1 : Int) ≤ 4)
  have b12 := pickedF_bd p.n (by decide : (1 : Int) ≤ 12)
  have hml : mkL.length = 12 := rfl
  refine CD.seq ?_
  refine CD.region ?_
  refine OD.box (ds := [_, _, _]) (wants_plain rfl) rfl rfl ot rfl rfl (fun b1 => ?_)
  refine OD.alloc (ds := [_, _, _]) (wants_plain rfl) rfl rfl Tryd.zeroValue30 rfl (fun b2 => ?_)
  refine OD.wk (Wk.as_ (n := 37) (l' := [(1, _), (2, _)]) (S' := [⟨b2, 30, 3, [_, _, _]⟩, ⟨b1, 35, 3, [_, _, _]⟩]) rfl rfl ⟨lk, lk, trivial⟩) ?_
  refine OD.nil ?_
  refine CD.seq ?_
  refine CD.seq ?_
  refine CD.region ?_
  refine OD.still (wants_plain rfl) rfl (still_r1 (mk := fun y => Op.fieldAddr 35 y 0) rfl ot (by first | exact fa_ptr (off := 0) Tryd.runUnderlying35 rfl Tryd.sizeOf3 rfl | exact fa_iptr (off := 0) Tryd.runUnderlying35 rfl Tryd.sizeOf3 rfl)) ?_
  refine OD.still (wants_plain rfl) rfl (still_r1 (mk := Op.load 3) rfl ot (by first | exact ld_blk (k := 1) rfl rfl Tryd.isAgg3 rfl | exact ld_fm cS_len Tryd.isAgg3 (by first | assumption | omega) rfl | exact ld_fm0 cS_len Tryd.isAgg3 (by first | assumption | omega) rfl | exact ld_row (k := 0) cS_len rfl rfl rfl Tryd.isAgg3 (by first | assumption | omega) rfl | exact ld_row0 (k := 0) cS_len rfl rfl rfl Tryd.isAgg3 (by first | assumption | omega) rfl | exact ld_row (k := 1) cS_len rfl rfl rfl Tryd.isAgg3 (by first | assumption | omega) rfl | exact ld_row0 (k := 1) cS_len rfl rfl rfl Tryd.isAgg3 (by first | assumption | omega) rfl | exact ld_i Tryd.isAgg3 rfl)) ?_
  refine OD.callP (wants_plain rfl) rfl rfl rfl Tryd.call9 (picked_vp G p.k 4 k1 k2 (by decide)) ⟨ot, opd_const, trivial⟩ ?_
  refine OD.still (wants_plain rfl) rfl (still_bin rfl opd_const ot (bin_add (wrap_i64 (by omega) (by omega)))) ?_
  refine OD.still (wants_plain rfl) rfl (still_as rfl ot) ?_
  refine OD.wk (Wk.as_ (n := 37) (l' := [(1, _), (2, _), (3, _)]) (S' := [⟨b2, 30, 3, [_, _, _]⟩, ⟨b1, 35, 3, [_, _, _]⟩]) rfl rfl ⟨lk, lk, lk, trivial⟩) ?_
  refine OD.nil ?_
  refine CD.seq ?_
  refine CD.region ?_
  refine OD.still (wants_plain rfl) rfl (still_mv rfl ot) ?_
  refine OD.wk (Wk.as_ (n := 37) (l' := [(1, _), (2, _), (3, _), (8, _)]) (S' := [⟨b2, 30, 3, [_, _, _]⟩, ⟨b1, 35, 3, [_, _, _]⟩]) rfl rfl ⟨lk, lk, lk, lk, trivial⟩) ?_
  refine OD.nil ?_
  refine CD.block ?_
  refine CD.seq ?_
  refine CD.region ?_
  refine OD.still (wants_plain rfl) rfl (still_bin rfl ot opd_const bin_eql) ?_
  refine OD.still (wants_plain rfl) rfl (still_as rfl ot) ?_
  refine OD.wk (Wk.as_ (n := 37) (l' := [(1, _), (2, _), (3, _), (8, _), (9, _)]) (S' := [⟨b2, 30, 3, [_, _, _]⟩, ⟨b1, 35, 3, [_, _, _]⟩]) rfl rfl ⟨lk, lk, lk, lk, lk, trivial⟩) ?_
  refine OD.nil ?_
  refine CD.cond ot (fun hc0 => ?_) (fun hc0 => ?_)
  · have hc0' := hc0
    (try simp only [decide_eq_true_eq, decide_eq_false_iff_not, beq_iff_eq, bne_iff_ne, Bool.not_eq_true', Bool.not_eq_false', Bool.not_eq_true, Bool.not_eq_false, beq_eq_false_iff_ne, ne_eq, bne_eq_false_iff_eq, Bool.and_eq_true, Bool.or_eq_true, Bool.not_not, Bool.and_eq_false_iff, Bool.or_eq_false_iff, Int.not_lt, Int.not_le] at hc0')
    have e : cT (tokenF p) = [.v (.int .i64 (1 + pickedF p.k 4)), .v (.string ⟨#[]⟩), .v (.int .i64 (pickedF p.n 4611686018427387904))] := by unfold tokenF; rw [if_pos (by omega), hc0']; rfl
    refine CD.seq ?_
    refine CD.region ?_
    refine OD.still (wants_plain rfl) rfl (still_mv rfl ot) ?_
    refine OD.still (wants_plain rfl) rfl (still_r1 (mk := fun y => Op.fieldAddr 35 y 1) rfl ot (by first | exact fa_ptr (off := 1) Tryd.runUnderlying35 rfl Tryd.sizeOf3 rfl | exact fa_iptr (off := 1) Tryd.runUnderlying35 rfl Tryd.sizeOf3 rfl)) ?_
    refine OD.still (wants_plain rfl) rfl (still_r1 (mk := Op.load 3) rfl ot (by first | exact ld_blk (k := 1) rfl rfl Tryd.isAgg3 rfl | exact ld_fm cS_len Tryd.isAgg3 (by first | assumption | omega) rfl | exact ld_fm0 cS_len Tryd.isAgg3 (by first | assumption | omega) rfl | exact ld_row (k := 0) cS_len rfl rfl rfl Tryd.isAgg3 (by first | assumption | omega) rfl | exact ld_row0 (k := 0) cS_len rfl rfl rfl Tryd.isAgg3 (by first | assumption | omega) rfl | exact ld_row (k := 1) cS_len rfl rfl rfl Tryd.isAgg3 (by first | assumption | omega) rfl | exact ld_row0 (k := 1) cS_len rfl rfl rfl Tryd.isAgg3 (by first | assumption | omega) rfl | exact ld_i Tryd.isAgg3 rfl)) ?_
    refine OD.callP (wants_plain rfl) rfl rfl rfl Tryd.call9 (picked_vp G p.n 4611686018427387904 n1 n2 (by decide)) ⟨ot, opd_const, trivial⟩ ?_
    refine OD.still (wants_plain rfl) rfl (still_bld (pl := [(0, _), (2, _)]) (ds := [_, _, _]) rfl Tryd.zeroValue30 Tryd.runUnderlying30 places30_Lx7 ⟨rfl, ot, rfl, ot, trivial⟩ rfl rfl) ?_
    refine OD.store (k := 0) (cs' := [_, _, _]) (wants_plain rfl) rfl rfl ot rfl rfl ot rfl rfl Tryd.sizeOf30 rfl rfl rfl ?_
    refine OD.wk (Wk.as_ (n := 37) (l' := [(2, _)]) (S' := [⟨b2, 30, 3, [_, _, _]⟩, ⟨b1, 35, 3, [_, _, _]⟩]) rfl rfl ⟨lk, trivial⟩) ?_
    refine OD.nil ?_
    refine CD.ret ?_
    refine ⟨.inr rfl, _, [], List.nil_sublist _, ret_one Tryd.results11 (res_cells (k := 0) (ds := [_, _, _]) (Nat.le_of_ble_eq_true rfl) lk rfl rfl Tryd.isAgg30 Tryd.sizeOf30 rfl rfl), ?_⟩
    rw [e]
    exact ⟨rfl, rfl⟩
  · have hc0' := hc0
    (try simp only [decide_eq_true_eq, decide_eq_false_iff_not, beq_iff_eq, bne_iff_ne, Bool.not_eq_true', Bool.not_eq_false', Bool.not_eq_true, Bool.not_eq_false, beq_eq_false_iff_ne, ne_eq, bne_eq_false_iff_eq, Bool.and_eq_true, Bool.or_eq_true, Bool.not_not, Bool.and_eq_false_iff, Bool.or_eq_false_iff, Int.not_lt, Int.not_le] at hc0')
    refine CD.seq ?_
    refine CD.region ?_
    refine OD.still (wants_plain rfl) rfl (still_bin rfl ot opd_const bin_eql) ?_
    refine OD.still (wants_plain rfl) rfl (still_as rfl ot) ?_
    refine OD.wk (Wk.as_ (n := 37) (l' := [(1, _), (2, _), (3, _), (8, _), (16, _)]) (S' := [⟨b2, 30, 3, [_, _, _]⟩, ⟨b1, 35, 3, [_, _, _]⟩]) rfl rfl ⟨lk, lk, lk, lk, lk, trivial⟩) ?_
    refine OD.nil ?_
    refine CD.cond ot (fun hc1 => ?_) (fun hc1 => ?_)
    · have hc1' := hc1
      (try simp only [decide_eq_true_eq, decide_eq_false_iff_not, beq_iff_eq, bne_iff_ne, Bool.not_eq_true', Bool.not_eq_false', Bool.not_eq_true, Bool.not_eq_false, beq_eq_false_iff_ne, ne_eq, bne_eq_false_iff_eq, Bool.and_eq_true, Bool.or_eq_true, Bool.not_not, Bool.and_eq_false_iff, Bool.or_eq_false_iff, Int.not_lt, Int.not_le] at hc1')
      have e : cT (tokenF p) = [.v (.int .i64 (1 + pickedF p.k 4)), .v (.string (cut8 p.s)), .v (.int .i64 0)] := by unfold tokenF; rw [if_neg (by omega), if_pos (by omega), hc1']; rfl
      refine CD.seq ?_
      refine CD.region ?_
      refine OD.still (wants_plain rfl) rfl (still_mv rfl ot) ?_
      refine OD.still (wants_plain rfl) rfl (still_r1 (mk := fun y => Op.fieldAddr 35 y 2) rfl ot (by first | exact fa_ptr (off := 2) Tryd.runUnderlying35 rfl Tryd.sizeOf9 rfl | exact fa_iptr (off := 2) Tryd.runUnderlying35 rfl Tryd.sizeOf9 rfl)) ?_
      refine OD.still (wants_plain rfl) rfl (still_r1 (mk := Op.load 9) rfl ot (by first | exact ld_blk (k := 1) rfl rfl Tryd.isAgg9 rfl | exact ld_fm cS_len Tryd.isAgg9 (by first | assumption | omega) rfl | exact ld_fm0 cS_len Tryd.isAgg9 (by first | assumption | omega) rfl | exact ld_row (k := 0) cS_len rfl rfl rfl Tryd.isAgg9 (by first | assumption | omega) rfl | exact ld_row0 (k := 0) cS_len rfl rfl rfl Tryd.isAgg9 (by first | assumption | omega) rfl | exact ld_row (k := 1) cS_len rfl rfl rfl Tryd.isAgg9 (by first | assumption | omega) rfl | exact ld_row0 (k := 1) cS_len rfl rfl rfl Tryd.isAgg9 (by first | assumption | omega) rfl | exact ld_i Tryd.isAgg9 rfl)) ?_
      refine OD.callP (wants_plain rfl) rfl rfl rfl Tryd.call14 (cutS_vp p.s 8 hs) ⟨ot, opd_const, trivial⟩ ?_
      refine OD.still (wants_plain rfl) rfl (still_bld (pl := [(0, _), (1, _)]) (ds := [_, _, _]) rfl Tryd.zeroValue30 Tryd.runUnderlying30 places30_Lx7 ⟨rfl, ot, rfl, ot, trivial⟩ rfl rfl) ?_
      refine OD.store (k := 0) (cs' := [_, _, _]) (wants_plain rfl) rfl rfl ot rfl rfl ot rfl rfl Tryd.sizeOf30 rfl rfl rfl ?_
      refine OD.wk (Wk.as_ (n := 37) (l' := [(2, _)]) (S' := [⟨b2, 30, 3, [_, _, _]⟩, ⟨b1, 35, 3, [_, _, _]⟩]) rfl rfl ⟨lk, trivial⟩) ?_
      refine OD.nil ?_
      refine CD.ret ?_
      refine ⟨.inr rfl, _, [], List.nil_sublist _, ret_one Tryd.results11 (res_cells (k := 0) (ds := [_, _, _]) (Nat.le_of_ble_eq_true rfl) lk rfl rfl Tryd.isAgg30 Tryd.sizeOf30 rfl rfl), ?_⟩
      rw [e]
      exact ⟨rfl, rfl⟩
    · have hc1' := hc1
      (try simp only [decide_eq_true_eq, decide_eq_false_iff_not, beq_iff_eq, bne_iff_ne, Bool.not_eq_true', Bool.not_eq_false', Bool.not_eq_true, Bool.not_eq_false, beq_eq_false_iff_ne, ne_eq, bne_eq_false_iff_eq, Bool.and_eq_true, Bool.or_eq_true, Bool.not_not, Bool.and_eq_false_iff, Bool.or_eq_false_iff, Int.not_lt, Int.not_le] at hc1')
      refine CD.seq ?_
      refine CD.region ?_
      refine OD.still (wants_plain rfl) rfl (still_bin rfl ot opd_const bin_eql) ?_
      refine OD.still (wants_plain rfl) rfl (still_as rfl ot) ?_
      refine OD.wk (Wk.as_ (n := 37) (l' := [(1, _), (2, _), (3, _), (23, _)]) (S' := [⟨b2, 30, 3, [_, _, _]⟩, ⟨b1, 35, 3, [_, _, _]⟩]) rfl rfl ⟨lk, lk, lk, lk, trivial⟩) ?_
      refine OD.nil ?_
      refine CD.cond ot (fun hc2 => ?_) (fun hc2 => ?_)
      · have hc2' := hc2
        (try simp only [decide_eq_true_eq, decide_eq_false_iff_not, beq_iff_eq, bne_iff_ne, Bool.not_eq_true', Bool.not_eq_false', Bool.not_eq_true, Bool.not_eq_false, beq_eq_false_iff_ne, ne_eq, bne_eq_false_iff_eq, Bool.and_eq_true, Bool.or_eq_true, Bool.not_not, Bool.and_eq_false_iff, Bool.or_eq_false_iff, Int.not_lt, Int.not_le] at hc2')
        have hi12 : (pickedF p.n 12).toNat < mkL.length := by omega
        have e : cT (tokenF p) = [.v (.int .i64 (1 + pickedF p.k 4)), .v (.string mkL[(pickedF p.n 12).toNat]), .v (.int .i64 0)] := by unfold tokenF; rw [if_neg (by omega), if_neg (by omega), if_pos (by omega), List.getD_eq_getElem?_getD, List.getElem?_eq_getElem hi12, hc2']; rfl
        refine CD.seq ?_
        refine CD.region ?_
        refine OD.still (wants_plain rfl) rfl (still_mv rfl ot) ?_
        refine OD.bldS (pl := [(0, _), (1, _), (2, _), (3, _), (4, _), (5, _), (6, _), (7, _), (8, _), (9, _), (10, _), (11, _)]) (zvs := [.string ⟨#[]⟩, .string ⟨#[]⟩, .string ⟨#[]⟩, .string ⟨#[]⟩, .string ⟨#[]⟩, .string ⟨#[]⟩, .string ⟨#[]⟩, .string ⟨#[]⟩, .string ⟨#[]⟩, .string ⟨#[]⟩, .string ⟨#[]⟩, .string ⟨#[]⟩]) (ds := [_, _, _, _, _, _, _, _, _, _, _, _]) (wants_plain rfl) rfl rfl Tryd.zeroValue9 Tryd.runUnderlying38 Tryd.sizeOf9 rfl rfl (by kernel_rfl) ⟨rfl, opd_const, rfl, opd_const, rfl, opd_const, rfl, opd_const, rfl, opd_const, rfl, opd_const, rfl, opd_const, rfl, opd_const, rfl, opd_const, rfl, opd_const, rfl, opd_const, rfl, opd_const, trivial⟩ rfl rfl (fun b26 => ?_)
        refine OD.perm (perm_q11 (S1 := [⟨b26, 9, 12 * 1, List.flatMap cS (mkL)⟩]) (A := [_, _])) ?_
        refine OD.giveL (t := 26) (Sq := [⟨b26, 9, 12 * 1, List.flatMap cS (mkL)⟩]) lk (ownL_row (g := cS) (sz := 1) (e := 9) (ls := mkL) (Nat.le_refl _) (show 12 ≤ maxLen by decide)) (fm_len cS_len _) (perm_r11 (A := [_, _])) ?_
        refine OD.still (wants_plain rfl) rfl (still_r1 (mk := fun y => Op.fieldAddr 35 y 1) rfl ot (by first | exact fa_ptr (off := 1) Tryd.runUnderlying35 rfl Tryd.sizeOf3 rfl | exact fa_iptr (off := 1) Tryd.runUnderlying35 rfl Tryd.sizeOf3 rfl)) ?_
        refine OD.still (wants_plain rfl) rfl (still_r1 (mk := Op.load 3) rfl ot (by first | exact ld_blk (k := 1) rfl rfl Tryd.isAgg3 rfl | exact ld_fm cS_len Tryd.isAgg3 (by first | assumption | omega) rfl | exact ld_fm0 cS_len Tryd.isAgg3 (by first | assumption | omega) rfl | exact ld_row (k := 0) cS_len rfl rfl rfl Tryd.isAgg3 (by first | assumption | omega) rfl | exact ld_row0 (k := 0) cS_len rfl rfl rfl Tryd.isAgg3 (by first | assumption | omega) rfl | exact ld_row (k := 1) cS_len rfl rfl rfl Tryd.isAgg3 (by first | assumption | omega) rfl | exact ld_row0 (k := 1) cS_len rfl rfl rfl Tryd.isAgg3 (by first | assumption | omega) rfl | exact ld_i Tryd.isAgg3 rfl)) ?_
        refine OD.callP (wants_plain rfl) rfl rfl rfl Tryd.call9 (picked_vp G p.n 12 n1 n2 (by decide)) ⟨ot, opd_const, trivial⟩ ?_
        refine OD.still (wants_plain rfl) rfl (still_r2 (mk := Op.indexAddr 38) rfl ot ot (by first | exact ix_list Tryd.runUnderlying38 Tryd.sizeOf9 rfl (by first | assumption | omega) | exact ix_list (j := Int.toNat _) Tryd.runUnderlying38 Tryd.sizeOf9 (Int.toNat_of_nonneg (by omega)).symm (by omega) | exact ix_row Tryd.runUnderlying38 Tryd.sizeOf9 rfl (by first | assumption | omega) | exact ix_row (j := Int.toNat _) Tryd.runUnderlying38 Tryd.sizeOf9 (Int.toNat_of_nonneg (by omega)).symm (by omega))) ?_
        refine OD.still (wants_plain rfl) rfl (still_r1 (mk := Op.load 9) rfl ot (by first | exact ld_blk (k := 0) rfl rfl Tryd.isAgg9 rfl | exact ld_blk (k := 1) rfl rfl Tryd.isAgg9 rfl | exact ld_fm cS_len Tryd.isAgg9 (by first | assumption | omega) rfl | exact ld_fm0 cS_len Tryd.isAgg9 (by first | assumption | omega) rfl | exact ld_row (k := 0) cS_len rfl rfl rfl Tryd.isAgg9 (by first | assumption | omega) rfl | exact ld_row0 (k := 0) cS_len rfl rfl rfl Tryd.isAgg9 (by first | assumption | omega) rfl | exact ld_row (k := 1) cS_len rfl rfl rfl Tryd.isAgg9 (by first | assumption | omega) rfl | exact ld_row0 (k := 1) cS_len rfl rfl rfl Tryd.isAgg9 (by first | assumption | omega) rfl | exact ld_i Tryd.isAgg9 rfl)) ?_
        refine OD.still (wants_plain rfl) rfl (still_bld (pl := [(0, _), (1, _)]) (ds := [_, _, _]) rfl Tryd.zeroValue30 Tryd.runUnderlying30 places30_Lx7 ⟨rfl, ot, rfl, ot, trivial⟩ rfl rfl) ?_
        refine OD.store (k := 0) (cs' := [_, _, _]) (wants_plain rfl) rfl rfl ot rfl rfl ot rfl rfl Tryd.sizeOf30 rfl rfl rfl ?_
        refine OD.wk (Wk.as_ (n := 37) (l' := [(2, _)]) (S' := [⟨b2, 30, 3, [_, _, _]⟩, ⟨b1, 35, 3, [_, _, _]⟩]) rfl rfl ⟨lk, trivial⟩) ?_
        refine OD.nil ?_
        refine CD.ret ?_
        refine ⟨.inr rfl, _, [], List.nil_sublist _, ret_one Tryd.results11 (res_cells (k := 0) (ds := [_, _, _]) (Nat.le_of_ble_eq_true rfl) lk rfl rfl Tryd.isAgg30 Tryd.sizeOf30 rfl rfl), ?_⟩
        rw [e]
        exact ⟨rfl, rfl⟩
      · have hc2' := hc2
        (try simp only [decide_eq_true_eq, decide_eq_false_iff_not, beq_iff_eq, bne_iff_ne, Bool.not_eq_true', Bool.not_eq_false', Bool.not_eq_true, Bool.not_eq_false, beq_eq_false_iff_ne, ne_eq, bne_eq_false_iff_eq, Bool.and_eq_true, Bool.or_eq_true, Bool.not_not, Bool.and_eq_false_iff, Bool.or_eq_false_iff, Int.not_lt, Int.not_le] at hc2')
        have e : cT (tokenF p) = [.v (.int .i64 1), .v (.string (wordF p.s)), .v (.int .i64 0)] := by unfold tokenF; rw [if_neg (by omega), if_neg (by omega), if_neg (by omega)]; rfl
        refine CD.skip ?_
        refine CD.seq ?_
        refine CD.region ?_
        refine OD.still (wants_plain rfl) rfl (still_r1 (mk := fun y => Op.fieldAddr 35 y 2) rfl ot (by first | exact fa_ptr (off := 2) Tryd.runUnderlying35 rfl Tryd.sizeOf9 rfl | exact fa_iptr (off := 2) Tryd.runUnderlying35 rfl Tryd.sizeOf9 rfl)) ?_
        refine OD.still (wants_plain rfl) rfl (still_r1 (mk := Op.load 9) rfl ot (by first | exact ld_blk (k := 1) rfl rfl Tryd.isAgg9 rfl | exact ld_fm cS_len Tryd.isAgg9 (by first | assumption | omega) rfl | exact ld_fm0 cS_len Tryd.isAgg9 (by first | assumption | omega) rfl | exact ld_row (k := 0) cS_len rfl rfl rfl Tryd.isAgg9 (by first | assumption | omega) rfl | exact ld_row0 (k := 0) cS_len rfl rfl rfl Tryd.isAgg9 (by first | assumption | omega) rfl | exact ld_row (k := 1) cS_len rfl rfl rfl Tryd.isAgg9 (by first | assumption | omega) rfl | exact ld_row0 (k := 1) cS_len rfl rfl rfl Tryd.isAgg9 (by first | assumption | omega) rfl | exact ld_i Tryd.isAgg9 rfl)) ?_
        refine OD.callP (wants_plain rfl) rfl rfl rfl Tryd.call8 (word_vp p.s hs) ⟨ot, trivial⟩ ?_
        refine OD.still (wants_plain rfl) rfl (still_bld (pl := [(0, _), (1, _)]) (ds := [_, _, _]) rfl Tryd.zeroValue30 Tryd.runUnderlying30 places30_Lx7 ⟨rfl, opd_const, rfl, ot, trivial⟩ rfl rfl) ?_
        refine OD.store (k := 0) (cs' := [_, _, _]) (wants_plain rfl) rfl rfl ot rfl rfl ot rfl rfl Tryd.sizeOf30 rfl rfl rfl ?_
        refine OD.wk (Wk.as_ (n := 37) (l' := [(2, _)]) (S' := [⟨b2, 30, 3, [_, _, _]⟩, ⟨b1, 35, 3, [_, _, _]⟩]) rfl rfl ⟨lk, trivial⟩) ?_
        refine OD.nil ?_
        refine CD.ret ?_
        refine ⟨.inr rfl, _, [], List.nil_sublist _, ret_one Tryd.results11 (res_cells (k := 0) (ds := [_, _, _]) (Nat.le_of_ble_eq_true rfl) lk rfl rfl Tryd.isAgg30 Tryd.sizeOf30 rfl rfl), ?_⟩
        rw [e]
        exact ⟨rfl, rfl⟩

def toksF (l : List Pc) (i : Nat) : List Tk := (l.take i).map tokenF
theorem toks_len (l : List Pc) {i : Nat} (h : i ≤ l.length) : (toksF l i).length = i := by unfold toksF; rw [List.length_map, List.length_take]; omega
theorem toks_good (l : List Pc) (i : Nat) : ∀ t ∈ toksF l i, GoodT t := fun t ht => by
  unfold toksF at ht
  obtain ⟨p, _, rfl⟩ := List.mem_map.1 ht
  exact token_good p
theorem toks_next (l : List Pc) {i : Nat} (h : i < l.length) : toksF l (i + 1) = toksF l i ++ [tokenF l[i]] := by
  unfold toksF; rw [List.take_succ_eq_append_getElem h, List.map_append]; rfl
open Go.ChangeShapes in
theorem rd_piece {H : Type} {enc : TypeId × Value → H} {w : World} {base : Nat} {sp : Nat → Bool} {held : Bool} : Rds enc Tryd.prog w base sp held 35 cP Pc.Ok :=
  (rd_struct3 Tryd.underlying35 (n0 := 1) (n1 := 1) (n2 := 1) (by kernel_rfl) rfl rfl rfl (by kernel_rfl) (by kernel_rfl) (by kernel_rfl) (rd_int Tryd.underlying3) (rd_int Tryd.underlying3) (rd_string Tryd.underlying9)).map (fun a => ⟨a.1, a.2.1, a.2.2⟩) (fun a => rfl) (fun a h => ⟨h.1.1, h.1.2, h.2.1.1, h.2.1.2, h.2.2⟩)
set_option maxRecDepth 100000 in
theorem rd_pieces {H : Type} {enc : TypeId × Value → H} {w : World} {base b' : Nat} {sp : Nat → Bool} {held : Bool} {v : Value} {d : DataW H} {p : List MemPlace} (hval : Value.okWide Tryd.prog w .any b' 32 v) (h : DataW.Trod enc Tryd.prog w base sp held 32 v d p) :
    ∃ l : List Pc, Rep w (fun _ => False) (.list 3 (l.flatMap cP) l.length) v ∧ (l.length ≤ maxLen ∧ ∀ x ∈ l, x.Ok) ∧ True := by
  obtain ⟨l, h1, h2, h3⟩ := rd_slice Tryd.underlying32 (by kernel_rfl) (by decide) rd_piece cP_len hval h
  exact ⟨l, h1, ⟨h3, h2⟩, trivial⟩

theorem info30_Lx7 : (Tryd.prog.info? 30).map (fun i => (i.zero, i.size, i.bytes)) = some (some (.agg #[.int .i64 0, .string ⟨#[]⟩, .int .i64 0]), 3, 32) := by kernel_rfl

def cE (z : Int) : List D := [.v (.int .i64 z)]
theorem cE_len (z : Int) : (cE z).length = 1 := rfl
theorem badl_at {k : Nat} (h : k < badL.length) (h' : k < badB.length) : badL[k] = ⟨(badB[k]).toArray⟩ := by simp [badL]
theorem cat_bytes (a b : List UInt8) : (⟨a.toArray⟩ : ByteArray) ++ ⟨b.toArray⟩ = ⟨(a ++ b).toArray⟩ := str_ext (by rw [Go.Joins.data_append])

set_option maxHeartbeats 4000000 in
set_option maxRecDepth 100000 in
theorem place_vp (hm : (0, marksC) ∈ G) (hG : (4, [Value.int .i64 m]) ∈ G) (hP : (3, PW) ∈ G) (hR : RangeVar G) (l : List Pc) (hl : l.length ≤ maxLen) (ho : ∀ x ∈ l, x.Ok) (a : Int) (h1 : -9223372036854775808 ≤ a) (h2 : a ≤ 9223372036854775807) : VP Tryd.prog G 5 [.list 3 (l.flatMap cP) l.length, .v (.int .i64 a)] (.v (.bool true)) := by
  refine VC.body Tryd.func5 rfl Tryd.ntmps5 (Nat.le_of_ble_eq_true rfl) fun X0 w0 S00 => ?_
  have hmx : maxLen = 9223372036854775807 := rfl
  have hpb := pickedF_bd a (by decide : (1 : Int) ≤ ((badL.length : Nat) : Int))
  have hpv := picked_vp G a ((badL.length : Nat) : Int) h1 h2 (by decide)
  obtain ⟨k, hk⟩ := Int.eq_ofNat_of_zero_le hpb.1
  rw [hk] at hpv hpb
  have hk8 : k < badL.length := by omega
  have hk8b : k < badB.length := hk8
  have hk8e : k < errB.length := hk8
  obtain ⟨c, r, hcr, hcb, hoe, hen, hrl⟩ := bad_at hk8b hk8e
  have hble : badL[k] = ⟨(c :: r).toArray⟩ := (badl_at hk8 hk8b).trans (congrArg (fun b : List UInt8 => (⟨b.toArray⟩ : ByteArray)) hcr)
  refine CD.seq ?_
  refine CD.region ?_
  refine OD.still (wants_plain rfl) rfl (still_as rfl opd_const) ?_
  refine OD.wk (Wk.as_ (n := 78) (l' := [(0, _), (1, _)]) (S' := []) rfl rfl ⟨lk, lk, trivial⟩) ?_
  refine OD.nil ?_
  refine CD.seq ?_
  refine CD.region ?_
  refine OD.still (wants_plain rfl) rfl (still_as rfl opd_const) ?_
  refine OD.wk (Wk.as_ (n := 78) (l' := [(0, _), (1, _), (5, _)]) (S' := ([])) rfl rfl ⟨lk, lk, lk, trivial⟩) ?_
  refine OD.nil ?_
  refine CD.seq ?_
  refine CD.seq ?_
  refine CD.region ?_
  refine OD.still (wants_plain rfl) rfl (still_as rfl opd_const) ?_
  refine OD.wk (Wk.as_ (n := 78) (l' := [(0, _), (1, _), (5, _), (6, _)]) (S' := ([])) rfl rfl ⟨lk, lk, lk, lk, trivial⟩) ?_
  refine OD.nil ?_
  refine CD.block ?_
  refine CD.wk (Wk.asS (n := 78) (l' := [(0, .list 3 (l.flatMap cP) l.length), (1, .v (.int .i64 a)), (5, .v (.slice none ((toksF l (0))).length (0))), (6, .v (.int .i64 ((0) : Nat)))]) (S' := (([]))) rfl (by repeat (first | exact List.Sublist.refl _ | apply List.Sublist.cons_cons | apply List.Sublist.cons)) ⟨(by (repeat (first | exact look_hit | (apply look_at; focus (first | rfl | (simp; done) | (congr 2; omega) | (apply row_eq; exact (toks_next l hil).symm) | (apply row_eq; simp; done))) | (apply look_miss; focus rfl))); done), (by (repeat (first | exact look_hit | (apply look_at; focus (first | rfl | (simp; done) | (congr 2; omega) | (apply row_eq; exact (toks_next l hil).symm) | (apply row_eq; simp; done))) | (apply look_miss; focus rfl))); done), (by (repeat (first | exact look_hit | (apply look_at; focus (first | rfl | (simp; done) | (congr 2; omega) | (apply row_eq; exact (toks_next l hil).symm) | (apply row_eq; simp; done))) | (apply look_miss; focus rfl))); done), (by (repeat (first | exact look_hit | (apply look_at; focus (first | rfl | (simp; done) | (congr 2; omega) | (apply row_eq; exact (toks_next l hil).symm) | (apply row_eq; simp; done))) | (apply look_miss; focus rfl))); done), trivial⟩) (CD.loop (fun (gh__ : Nat × Option Addr × Nat × List Blk) y__ => match gh__ with | (i, adx, cpx, Sx) => (i ≤ l.length) ∧ (i ≤ 12) ∧ (OwnL 30 3 (((toksF l i)).flatMap cT) ((toksF l i)).length adx cpx Sx) ∧ y__ = (⟨78, [(0, .list 3 (l.flatMap cP) l.length), (1, .v (.int .i64 a)), (5, .v (.slice adx ((toksF l i)).length cpx)), (6, .v (.int .i64 (i : Nat)))], (Sx)⟩ : St)) (fun (gh__ : Nat × Option Addr × Nat × List Blk) => match gh__ with | (i, adx, cpx, Sx) => l.length - i) (0, none, 0, []) ⟨(Nat.zero_le _), (Nat.zero_le _), (OwnL.cast ownL_nil (by first | rfl | simp)), rfl⟩ ?_)
  rintro ⟨i, adx, cpx, Sx⟩ _ ⟨hi, hi12, hox, rfl⟩
  refine CD.seq ?_
  refine CD.seq ?_
  refine CD.region ?_
  refine OD.still (wants_plain rfl) rfl (still_mv rfl ot) ?_
  refine OD.still (wants_plain rfl) rfl (still_mv rfl ot) ?_
  refine OD.still (wants_plain rfl) rfl (still_r1 (mk := fun y => .call { callee := .builtin .len, args := #[y], argTypes := #[32] }) rfl ot (by first | exact len_list rfl Tryd.runUnderlying32 | exact len_row rfl Tryd.runUnderlying32)) ?_
  refine OD.still (wants_plain rfl) rfl (still_bin rfl ot ot bin_lss) ?_
  refine OD.still (wants_plain rfl) rfl (still_mv rfl ot) ?_
  refine OD.split (t := 20) lk (fun hg20 => ?_) (fun hg20 => ?_)
  · have hg20' := hg20; (try simp only [decide_eq_true_eq, decide_eq_false_iff_not, beq_iff_eq, bne_iff_ne, Bool.not_eq_true', Bool.not_eq_false', Bool.not_eq_true, Bool.not_eq_false, beq_eq_false_iff_ne, ne_eq, bne_eq_false_iff_eq, Bool.and_eq_true, Bool.or_eq_true, Bool.not_not] at hg20')
    refine OD.still (wants_T rfl rfl rfl lk (by first | rfl | assumption)) rfl (still_mv rfl ot) ?_
    refine OD.still (wants_T rfl rfl rfl lk (by first | rfl | assumption)) rfl (still_bin rfl ot opd_const bin_lss) ?_
    refine OD.still (wants_plain rfl) rfl (still_pickT rfl ot (by first | rfl | assumption) ot) ?_
    refine OD.wk (Wk.as_ (n := 78) (l' := [(0, _), (1, _), (5, _), (6, _), (23, _)]) (S' := (Sx)) rfl rfl ⟨lk, lk, lk, lk, lk, trivial⟩) ?_
    refine OD.nil ?_
    refine CD.cond ot (fun hc0 => ?_) (fun hc0 => ?_)
    · have hc0' := hc0
      (try simp only [decide_eq_true_eq, decide_eq_false_iff_not, beq_iff_eq, bne_iff_ne, Bool.not_eq_true', Bool.not_eq_false', Bool.not_eq_true, Bool.not_eq_false, beq_eq_false_iff_ne, ne_eq, bne_eq_false_iff_eq, Bool.and_eq_true, Bool.or_eq_true, Bool.not_not, Bool.and_eq_false_iff, Bool.or_eq_false_iff, Int.not_lt, Int.not_le] at hc0')
      have hil : i < l.length := by omega
      have hok := ho _ (List.getElem_mem hil)
      refine CD.skip ?_
      refine CD.seq ?_
      refine CD.block ?_
      refine CD.seq ?_
      refine CD.region ?_
      refine OD.still (wants_plain rfl) rfl (still_mv rfl ot) ?_
      refine OD.still (wants_plain rfl) rfl (still_mv rfl ot) ?_
      refine OD.still (wants_plain rfl) rfl (still_r2 (mk := Op.indexAddr 32) rfl ot ot (by first | exact ix_list Tryd.runUnderlying32 Tryd.sizeOf35 rfl (by first | assumption | omega) | exact ix_list (j := Int.toNat _) Tryd.runUnderlying32 Tryd.sizeOf35 (Int.toNat_of_nonneg (by omega)).symm (by omega) | exact ix_row Tryd.runUnderlying32 Tryd.sizeOf35 rfl (by first | assumption | omega) | exact ix_row (j := Int.toNat _) Tryd.runUnderlying32 Tryd.sizeOf35 (Int.toNat_of_nonneg (by omega)).symm (by omega))) ?_
      refine OD.still (wants_plain rfl) rfl (still_r1 (mk := Op.load 35) rfl ot (by first | exact ld_fms cP_len Tryd.isAgg35 Tryd.sizeOf35 (by first | assumption | omega) | exact ld_fms cT_len Tryd.isAgg35 Tryd.sizeOf35 (by first | assumption | omega) | exact ld_fms cS_len Tryd.isAgg35 Tryd.sizeOf35 (by first | assumption | omega) | exact ld_fms cE_len Tryd.isAgg35 Tryd.sizeOf35 (by first | assumption | omega) | exact ld_is (ds := [_, _, _]) Tryd.isAgg35 Tryd.sizeOf35 rfl rfl)) ?_
      refine OD.callP (wants_plain rfl) rfl rfl rfl Tryd.call11 (Token_vp l[i] hok) ⟨ot, trivial⟩ ?_
      refine OD.alloc (ds := [_, _, _]) (wants_plain rfl) rfl rfl Tryd.zeroValue30 rfl (fun b7 => ?_)
      refine OD.store (k := 0) (cs' := [_, _, _]) (wants_plain rfl) rfl rfl ot rfl rfl ot rfl rfl Tryd.sizeOf30 rfl rfl rfl ?_
      refine OD.wk (Wk.as_ (n := 78) (l' := [(0, _), (1, _), (5, _), (6, _), (7, _)]) (S' := (⟨b7, 30, 3, [_, _, _]⟩ :: Sx)) rfl rfl ⟨lk, lk, lk, lk, lk, trivial⟩) ?_
      refine OD.nil ?_
      refine CD.region ?_
      refine OD.still (wants_plain rfl) rfl (still_mv rfl ot) ?_
      refine OD.still (wants_plain rfl) rfl (still_r1 (mk := Op.load 30) rfl ot (by first | exact ld_blks (k := 0) (ds := [_, _, _]) rfl rfl Tryd.isAgg30 Tryd.sizeOf30 rfl rfl | exact ld_fms cP_len Tryd.isAgg30 Tryd.sizeOf30 (by first | assumption | omega) | exact ld_fms cT_len Tryd.isAgg30 Tryd.sizeOf30 (by first | assumption | omega) | exact ld_fms cS_len Tryd.isAgg30 Tryd.sizeOf30 (by first | assumption | omega) | exact ld_fms cE_len Tryd.isAgg30 Tryd.sizeOf30 (by first | assumption | omega) | exact ld_rows (k := 0) cP_len rfl rfl rfl Tryd.isAgg30 Tryd.sizeOf30 (by first | assumption | omega) | exact ld_rows (k := 0) cT_len rfl rfl rfl Tryd.isAgg30 Tryd.sizeOf30 (by first | assumption | omega) | exact ld_rows (k := 0) cS_len rfl rfl rfl Tryd.isAgg30 Tryd.sizeOf30 (by first | assumption | omega) | exact ld_rows (k := 0) cE_len rfl rfl rfl Tryd.isAgg30 Tryd.sizeOf30 (by first | assumption | omega) | exact ld_is (ds := [_, _, _]) Tryd.isAgg30 Tryd.sizeOf30 rfl rfl)) ?_
      refine OD.bldS (pl := [(0, _)]) (zvs := [.int .i64 0, .string ⟨#[]⟩, .int .i64 0]) (ds := [_, _, _]) (wants_plain rfl) rfl rfl Tryd.zeroValue30 Tryd.runUnderlying25 Tryd.sizeOf30 rfl rfl (by kernel_rfl) ⟨rfl, ot, trivial⟩ rfl rfl (fun b33 => ?_)
      refine OD.give (k := 0) (t := 33) (sz := 3) (m := 1) rfl lk rfl rfl rfl (Nat.le_refl _) (by decide) ?_
      refine OD.appendG (ls := ((toksF l i))) (new := [tokenF l[i]]) (Sq := Sx) cT_len cT_one (wants_plain rfl) rfl rfl Tryd.underlying25 info30_Lx7 rfl (by decide) ot hox (perm_r11 (A := [_])) ot (by simp) (by simp [maxLen, toks_len l hi]; omega) (by simp [toks_len l hi]; omega) (fun b34 cp34 h134 h234 => ?_)
      refine OD.perm (perm_q11 (S1 := [⟨b34, 30, cp34 * 3, List.flatMap cT (((toksF l i)) ++ [tokenF l[i]])⟩]) (A := [_])) ?_
      refine OD.still (wants_plain rfl) rfl (still_as rfl ot) ?_
      refine OD.wk (Wk.as_ (n := 78) (l' := [(0, _), (1, _), (5, _), (6, _)]) (S' := (⟨b7, 30, 3, [_, _, _]⟩ :: [⟨b34, 30, cp34 * 3, List.flatMap cT (((toksF l i)) ++ [tokenF l[i]])⟩])) rfl rfl ⟨lk, lk, lk, lk, trivial⟩) ?_
      refine OD.nil ?_
      refine CD.region ?_
      refine OD.still (wants_plain rfl) rfl (still_mv rfl ot) ?_
      refine OD.still (wants_plain rfl) rfl (still_bin rfl ot opd_const (bin_add (wrap_i64 (by omega) (by omega)))) ?_
      refine OD.still (wants_plain rfl) rfl (still_as rfl ot) ?_
      refine OD.wk (Wk.as_ (n := 78) (l' := [(0, _), (1, _), (5, _), (6, _)]) (S' := (⟨b7, 30, 3, [_, _, _]⟩ :: [⟨b34, 30, cp34 * 3, List.flatMap cT (((toksF l i)) ++ [tokenF l[i]])⟩])) rfl rfl ⟨lk, lk, lk, lk, trivial⟩) ?_
      refine OD.nil ?_
      refine ⟨((i + 1), (some ⟨b34, 0, none⟩), cp34, [⟨b34, 30, cp34 * 3, List.flatMap cT (((toksF l i)) ++ [tokenF l[i]])⟩]), ⟨78, [(0, .list 3 (l.flatMap cP) l.length), (1, .v (.int .i64 a)), (5, .v (.slice ((some ⟨b34, 0, none⟩)) ((toksF l ((i + 1)))).length cp34)), (6, .v (.int .i64 (((i + 1)) : Nat)))], (([⟨b34, 30, cp34 * 3, List.flatMap cT (((toksF l i)) ++ [tokenF l[i]])⟩]))⟩, ?_, Wk.asS (n := 78) rfl (by repeat (first | exact List.Sublist.refl _ | apply List.Sublist.cons_cons | apply List.Sublist.cons)) ⟨(by (repeat (first | exact look_hit | (apply look_at; focus (first | rfl | (simp; done) | (congr 2; omega) | (apply row_eq; exact (toks_next l hil).symm) | (apply row_eq; simp; done))) | (apply look_miss; focus rfl))); done), (by (repeat (first | exact look_hit | (apply look_at; focus (first | rfl | (simp; done) | (congr 2; omega) | (apply row_eq; exact (toks_next l hil).symm) | (apply row_eq; simp; done))) | (apply look_miss; focus rfl))); done), (by (repeat (first | exact look_hit | (apply look_at; focus (first | rfl | (simp; done) | (congr 2; omega) | (apply row_eq; exact (toks_next l hil).symm) | (apply row_eq; simp; done))) | (apply look_miss; focus rfl))); done), (by (repeat (first | exact look_hit | (apply look_at; focus (first | rfl | (simp; done) | (congr 2; omega) | (apply row_eq; exact (toks_next l hil).symm) | (apply row_eq; simp; done))) | (apply look_miss; focus rfl))); done), trivial⟩, (by omega), (by omega), (OwnL.cast (ownL_row h134 h234) (by exact (toks_next l hil).symm)), rfl⟩
      first | omega | (simp only []; omega)
    · have hc0' := hc0
      (try simp only [decide_eq_true_eq, decide_eq_false_iff_not, beq_iff_eq, bne_iff_ne, Bool.not_eq_true', Bool.not_eq_false', Bool.not_eq_true, Bool.not_eq_false, beq_eq_false_iff_ne, ne_eq, bne_eq_false_iff_eq, Bool.and_eq_true, Bool.or_eq_true, Bool.not_not, Bool.and_eq_false_iff, Bool.or_eq_false_iff, Int.not_lt, Int.not_le] at hc0')
      have htl := toks_len l hi
      have hjg := join_good hm hG hP (toks_good l i) (by omega)
      have hlen := shows_len [] (by simp) (toksF l i) (toks_good l i)
      have hcf := cutF_bad (toks_good l i) (by omega) hrl hcb (by rw [hoe]; exact hen)
      rw [hoe] at hcf
      have hcv := cut_vp hm (⟨(showsL [] (toksF l i) ++ c :: r).toArray⟩ : ByteArray) (by show (showsL [] (toksF l i) ++ c :: r).toArray.size ≤ _; rw [List.size_toArray, List.length_append]; omega) (fun _ => hR)
      rw [str_of, hcf] at hcv
      unfold cutD at hcv
      dsimp only at hcv
      refine CD.exit ?_
      refine CD.seq ?_
      refine CD.giveL (t := 5) (Sq := Sx) lk hox (fm_len cT_len _) (perm_r11 (A := [])) ?_
      refine CD.region ?_
      refine OD.still (wants_plain rfl) rfl (still_mv rfl ot) ?_
      refine OD.callP (wants_plain rfl) rfl rfl rfl Tryd.call12 (hjg) ⟨ot, trivial⟩ ?_
      refine OD.still (wants_plain rfl) rfl (still_mv rfl ot) ?_
      refine OD.still (wants_plain rfl) rfl (still_extract rfl ot rfl) ?_
      refine OD.still (wants_plain rfl) rfl (still_extract rfl ot rfl) ?_
      refine OD.still (wants_plain rfl) rfl (still_as rfl ot) ?_
      refine OD.still (wants_plain rfl) rfl (still_as rfl ot) ?_
      refine OD.wk (Wk.as_ (n := 78) (l' := [(1, _), (8, _), (9, _)]) (S' := []) rfl rfl ⟨lk, lk, lk, trivial⟩) ?_
      refine OD.nil ?_
      refine CD.seq ?_
      refine CD.region ?_
      refine OD.bldS (pl := [(0, _), (1, _), (2, _), (3, _), (4, _), (5, _), (6, _), (7, _)]) (zvs := [.string ⟨#[]⟩, .string ⟨#[]⟩, .string ⟨#[]⟩, .string ⟨#[]⟩, .string ⟨#[]⟩, .string ⟨#[]⟩, .string ⟨#[]⟩, .string ⟨#[]⟩]) (ds := [_, _, _, _, _, _, _, _]) (wants_plain rfl) rfl rfl Tryd.zeroValue9 Tryd.runUnderlying38 Tryd.sizeOf9 rfl rfl (by kernel_rfl) ⟨rfl, opd_const, rfl, opd_const, rfl, opd_const, rfl, opd_const, rfl, opd_const, rfl, opd_const, rfl, opd_const, rfl, opd_const, trivial⟩ rfl rfl (fun b40 => ?_)
      refine OD.perm (perm_q11 (S1 := [⟨b40, 9, 8 * 1, List.flatMap cS (badL)⟩]) (A := [])) ?_
      refine OD.giveL (t := 40) (Sq := [⟨b40, 9, 8 * 1, List.flatMap cS (badL)⟩]) lk (ownL_row (g := cS) (sz := 1) (e := 9) (ls := badL) (Nat.le_refl _) (show 8 ≤ maxLen by decide)) (fm_len cS_len _) (perm_r11 (A := [])) ?_
      refine OD.still (wants_plain rfl) rfl (still_as rfl ot) ?_
      refine OD.wk (Wk.as_ (n := 78) (l' := [(1, _), (8, _), (9, _), (10, _)]) (S' := []) rfl rfl ⟨lk, lk, lk, lk, trivial⟩) ?_
      refine OD.nil ?_
      refine CD.seq ?_
      refine CD.region ?_
      refine OD.bldS (pl := [(0, _), (1, _), (2, _), (3, _), (4, _), (5, _), (6, _), (7, _)]) (zvs := [.int .i64 0, .int .i64 0, .int .i64 0, .int .i64 0, .int .i64 0, .int .i64 0, .int .i64 0, .int .i64 0]) (ds := [_, _, _, _, _, _, _, _]) (wants_plain rfl) rfl rfl Tryd.zeroValue26 Tryd.runUnderlying41 Tryd.sizeOf26 rfl rfl (by kernel_rfl) ⟨rfl, opd_const, rfl, opd_const, rfl, opd_const, rfl, opd_const, rfl, opd_const, rfl, opd_const, rfl, opd_const, rfl, opd_const, trivial⟩ rfl rfl (fun b41 => ?_)
      refine OD.perm (perm_q11 (S1 := [⟨b41, 26, 8 * 1, List.flatMap cE (errB)⟩]) (A := [])) ?_
      refine OD.giveL (t := 41) (Sq := [⟨b41, 26, 8 * 1, List.flatMap cE (errB)⟩]) lk (ownL_row (g := cE) (sz := 1) (e := 26) (ls := errB) (Nat.le_refl _) (show 8 ≤ maxLen by decide)) (fm_len cE_len _) (perm_r11 (A := [])) ?_
      refine OD.still (wants_plain rfl) rfl (still_as rfl ot) ?_
      refine OD.wk (Wk.as_ (n := 78) (l' := [(1, _), (8, _), (9, _), (10, _), (11, _)]) (S' := []) rfl rfl ⟨lk, lk, lk, lk, lk, trivial⟩) ?_
      refine OD.nil ?_
      refine CD.seq ?_
      refine CD.region ?_
      refine OD.still (wants_plain rfl) rfl (still_mv rfl ot) ?_
      refine OD.still (wants_plain rfl) rfl (still_mv rfl ot) ?_
      refine OD.still (wants_plain rfl) rfl (still_r1 (mk := fun y => .call { callee := .builtin .len, args := #[y], argTypes := #[38] }) rfl ot (by first | exact len_list rfl Tryd.runUnderlying38 | exact len_row rfl Tryd.runUnderlying38)) ?_
      refine OD.callP (wants_plain rfl) rfl rfl rfl Tryd.call9 (hpv) ⟨ot, ot, trivial⟩ ?_
      refine OD.still (wants_plain rfl) rfl (still_as rfl ot) ?_
      refine OD.wk (Wk.as_ (n := 78) (l' := [(8, _), (9, _), (10, _), (11, _), (12, _)]) (S' := []) rfl rfl ⟨lk, lk, lk, lk, lk, trivial⟩) ?_
      refine OD.nil ?_
      refine CD.seq ?_
      refine CD.region ?_
      refine OD.still (wants_plain rfl) rfl (still_mv rfl ot) ?_
      refine OD.still (wants_plain rfl) rfl (still_mv rfl ot) ?_
      refine OD.still (wants_plain rfl) rfl (still_mv rfl ot) ?_
      refine OD.still (wants_plain rfl) rfl (still_r2 (mk := Op.indexAddr 38) rfl ot ot (by first | exact ix_list Tryd.runUnderlying38 Tryd.sizeOf9 rfl (by first | assumption | omega) | exact ix_list (j := Int.toNat _) Tryd.runUnderlying38 Tryd.sizeOf9 (Int.toNat_of_nonneg (by omega)).symm (by omega) | exact ix_row Tryd.runUnderlying38 Tryd.sizeOf9 rfl (by first | assumption | omega) | exact ix_row (j := Int.toNat _) Tryd.runUnderlying38 Tryd.sizeOf9 (Int.toNat_of_nonneg (by omega)).symm (by omega))) ?_
      refine OD.still (wants_plain rfl) rfl (still_r1 (mk := Op.load 9) rfl ot (by first | exact ld_fm cP_len Tryd.isAgg9 (by first | assumption | omega) rfl | exact ld_fm0 cP_len Tryd.isAgg9 (by first | assumption | omega) rfl | exact ld_fm cT_len Tryd.isAgg9 (by first | assumption | omega) rfl | exact ld_fm0 cT_len Tryd.isAgg9 (by first | assumption | omega) rfl | exact ld_fm cS_len Tryd.isAgg9 (by first | assumption | omega) rfl | exact ld_fm0 cS_len Tryd.isAgg9 (by first | assumption | omega) rfl | exact ld_fm cE_len Tryd.isAgg9 (by first | assumption | omega) rfl | exact ld_fm0 cE_len Tryd.isAgg9 (by first | assumption | omega) rfl | exact ld_i Tryd.isAgg9 rfl)) ?_
      refine OD.still (wants_plain rfl) rfl (still_bin (r := .string (⟨(showsL [] (toksF l i) ++ c :: r).toArray⟩ : ByteArray)) rfl ot ot (by rw [hble, ← cat_bytes]; exact bin_cat (by show (showsL [] (toksF l i)).toArray.size + (c :: r).toArray.size ≤ _; rw [List.size_toArray, List.size_toArray]; omega))) ?_
      refine OD.callP (wants_plain rfl) rfl rfl rfl Tryd.call10 (hcv) ⟨ot, trivial⟩ ?_
      refine OD.still (wants_plain rfl) rfl (still_mv rfl ot) ?_
      refine OD.still (wants_plain rfl) rfl (still_extract rfl ot rfl) ?_
      refine OD.still (wants_plain rfl) rfl (still_extract rfl ot rfl) ?_
      refine OD.still (wants_plain rfl) rfl (still_extract rfl ot rfl) ?_
      refine OD.still (wants_plain rfl) rfl (still_as rfl ot) ?_
      refine OD.still (wants_plain rfl) rfl (still_as rfl ot) ?_
      refine OD.still (wants_plain rfl) rfl (still_as rfl ot) ?_
      refine OD.wk (Wk.as_ (n := 78) (l' := [(8, _), (9, _), (11, _), (12, _), (13, _), (14, _), (15, _)]) (S' := []) rfl rfl ⟨lk, lk, lk, lk, lk, lk, lk, trivial⟩) ?_
      refine OD.nil ?_
      refine CD.seq ?_
      refine CD.region ?_
      refine OD.still (wants_plain rfl) rfl (still_mv rfl ot) ?_
      refine OD.still (wants_plain rfl) rfl (still_bin rfl ot opd_const bin_eql) ?_
      refine OD.still (wants_plain rfl) rfl (still_mv rfl ot) ?_
      refine OD.split (t := 59) lk (fun hg59 => ?_) (fun hg59 => ?_)
      · have hg59' := hg59; (try simp only [decide_eq_true_eq, decide_eq_false_iff_not, beq_iff_eq, bne_iff_ne, Bool.not_eq_true', Bool.not_eq_false', Bool.not_eq_true, Bool.not_eq_false, beq_eq_false_iff_ne, ne_eq, bne_eq_false_iff_eq, Bool.and_eq_true, Bool.or_eq_true, Bool.not_not] at hg59')
        refine OD.still (wants_T rfl rfl rfl lk (by first | rfl | assumption)) rfl (still_mv rfl ot) ?_
        refine OD.still (wants_T rfl rfl rfl lk (by first | rfl | assumption)) rfl (still_mv rfl ot) ?_
        refine OD.still (wants_T rfl rfl rfl lk (by first | rfl | assumption)) rfl (still_mv rfl ot) ?_
        refine OD.still (wants_T rfl rfl rfl lk (by first | rfl | assumption)) rfl (still_r2 (mk := Op.indexAddr 41) rfl ot ot (by first | exact ix_list Tryd.runUnderlying41 Tryd.sizeOf26 rfl (by first | assumption | omega) | exact ix_list (j := Int.toNat _) Tryd.runUnderlying41 Tryd.sizeOf26 (Int.toNat_of_nonneg (by omega)).symm (by omega) | exact ix_row Tryd.runUnderlying41 Tryd.sizeOf26 rfl (by first | assumption | omega) | exact ix_row (j := Int.toNat _) Tryd.runUnderlying41 Tryd.sizeOf26 (Int.toNat_of_nonneg (by omega)).symm (by omega))) ?_
        refine OD.still (wants_T rfl rfl rfl lk (by first | rfl | assumption)) rfl (still_r1 (mk := Op.load 26) rfl ot (by first | exact ld_fm cP_len Tryd.isAgg26 (by first | assumption | omega) rfl | exact ld_fm0 cP_len Tryd.isAgg26 (by first | assumption | omega) rfl | exact ld_fm cT_len Tryd.isAgg26 (by first | assumption | omega) rfl | exact ld_fm0 cT_len Tryd.isAgg26 (by first | assumption | omega) rfl | exact ld_fm cS_len Tryd.isAgg26 (by first | assumption | omega) rfl | exact ld_fm0 cS_len Tryd.isAgg26 (by first | assumption | omega) rfl | exact ld_fm cE_len Tryd.isAgg26 (by first | assumption | omega) rfl | exact ld_fm0 cE_len Tryd.isAgg26 (by first | assumption | omega) rfl | exact ld_i Tryd.isAgg26 rfl)) ?_
        refine OD.still (wants_T rfl rfl rfl lk (by first | rfl | assumption)) rfl (still_bin rfl ot ot bin_eql) ?_
        refine OD.still (wants_plain rfl) rfl (still_pickT rfl ot (by first | rfl | assumption) ot) ?_
        refine OD.still (wants_plain rfl) rfl (still_mv rfl ot) ?_
        refine OD.split (t := 67) lk (fun hg67 => ?_) (fun hg67 => ?_)
        · have hg67' := hg67; (try simp only [decide_eq_true_eq, decide_eq_false_iff_not, beq_iff_eq, bne_iff_ne, Bool.not_eq_true', Bool.not_eq_false', Bool.not_eq_true, Bool.not_eq_false, beq_eq_false_iff_ne, ne_eq, bne_eq_false_iff_eq, Bool.and_eq_true, Bool.or_eq_true, Bool.not_not] at hg67')
          refine OD.still (wants_T rfl rfl rfl lk (by first | rfl | assumption)) rfl (still_mv rfl ot) ?_
          refine OD.still (wants_T rfl rfl rfl lk (by first | rfl | assumption)) rfl (still_mv rfl ot) ?_
          refine OD.still (wants_T rfl rfl rfl lk (by first | rfl | assumption)) rfl (still_slen rfl rfl ot Tryd.runUnderlying9) ?_
          refine OD.still (wants_T rfl rfl rfl lk (by first | rfl | assumption)) rfl (still_bin rfl ot ot bin_eql) ?_
          refine OD.still (wants_plain rfl) rfl (still_pickT rfl ot (by first | rfl | assumption) ot) ?_
          refine OD.still (wants_plain rfl) rfl (still_mv rfl ot) ?_
          refine OD.split (t := 73) lk (fun hg73 => ?_) (fun hg73 => ?_)
          · have hg73' := hg73; (try simp only [decide_eq_true_eq, decide_eq_false_iff_not, beq_iff_eq, bne_iff_ne, Bool.not_eq_true', Bool.not_eq_false', Bool.not_eq_true, Bool.not_eq_false, beq_eq_false_iff_ne, ne_eq, bne_eq_false_iff_eq, Bool.and_eq_true, Bool.or_eq_true, Bool.not_not] at hg73')
            refine OD.still (wants_T rfl rfl rfl lk (by first | rfl | assumption)) rfl (still_mv rfl ot) ?_
            refine OD.still (wants_T rfl rfl rfl lk (by first | rfl | assumption)) rfl (still_r1 (mk := fun y => .call { callee := .builtin .len, args := #[y], argTypes := #[25] }) rfl ot (by first | exact len_list rfl Tryd.runUnderlying25 | exact len_row rfl Tryd.runUnderlying25)) ?_
            refine OD.still (wants_T rfl rfl rfl lk (by first | rfl | assumption)) rfl (still_bin rfl ot opd_const bin_eql) ?_
            refine OD.still (wants_plain rfl) rfl (still_pickT rfl ot (by first | rfl | assumption) ot) ?_
            refine OD.still (wants_plain rfl) rfl (still_as rfl ot) ?_
            refine OD.wk (Wk.as_ (n := 78) (l' := [(4, _)]) (S' := []) rfl rfl ⟨lk, trivial⟩) ?_
            refine OD.nil ?_
            refine CD.ret ?_
            refine ⟨.inr rfl, _, [], List.nil_sublist _, ret_one Tryd.results5 (res_tmp (Nat.le_of_ble_eq_true rfl) lk), ?_⟩
            exact ⟨by first | rfl | (simp [*]; done), rfl⟩
          · exact absurd hg73 (by rw [sz_of]; simp)
        · exact absurd hg67 (by simp at *)
      · exact absurd hg59 (by simp at *)
  · have hg20' := hg20; (try simp only [decide_eq_true_eq, decide_eq_false_iff_not, beq_iff_eq, bne_iff_ne, Bool.not_eq_true', Bool.not_eq_false', Bool.not_eq_true, Bool.not_eq_false, beq_eq_false_iff_ne, ne_eq, bne_eq_false_iff_eq, Bool.and_eq_true, Bool.or_eq_true, Bool.not_not] at hg20')
    refine OD.skip (wants_F rfl rfl rfl lk (by first | rfl | assumption)) rfl ?_
    refine OD.skip (wants_F rfl rfl rfl lk (by first | rfl | assumption)) rfl ?_
    refine OD.still (wants_plain rfl) rfl (still_pickF rfl ot (by first | rfl | assumption) opd_const) ?_
    refine OD.wk (Wk.as_ (n := 78) (l' := [(0, _), (1, _), (5, _), (6, _), (23, _)]) (S' := (Sx)) rfl rfl ⟨lk, lk, lk, lk, lk, trivial⟩) ?_
    refine OD.nil ?_
    refine CD.condF ot (by first | rfl | assumption) ?_
    have htl := toks_len l hi
    have hjg := join_good hm hG hP (toks_good l i) (by omega)
    have hlen := shows_len [] (by simp) (toksF l i) (toks_good l i)
    have hcf := cutF_bad (toks_good l i) (by omega) hrl hcb (by rw [hoe]; exact hen)
    rw [hoe] at hcf
    have hcv := cut_vp hm (⟨(showsL [] (toksF l i) ++ c :: r).toArray⟩ : ByteArray) (by show (showsL [] (toksF l i) ++ c :: r).toArray.size ≤ _; rw [List.size_toArray, List.length_append]; omega) (fun _ => hR)
    rw [str_of, hcf] at hcv
    unfold cutD at hcv
    dsimp only at hcv
    refine CD.exit ?_
    refine CD.seq ?_
    refine CD.giveL (t := 5) (Sq := Sx) lk hox (fm_len cT_len _) (perm_r11 (A := [])) ?_
    refine CD.region ?_
    refine OD.still (wants_plain rfl) rfl (still_mv rfl ot) ?_
    refine OD.callP (wants_plain rfl) rfl rfl rfl Tryd.call12 (hjg) ⟨ot, trivial⟩ ?_
    refine OD.still (wants_plain rfl) rfl (still_mv rfl ot) ?_
    refine OD.still (wants_plain rfl) rfl (still_extract rfl ot rfl) ?_
    refine OD.still (wants_plain rfl) rfl (still_extract rfl ot rfl) ?_
    refine OD.still (wants_plain rfl) rfl (still_as rfl ot) ?_
    refine OD.still (wants_plain rfl) rfl (still_as rfl ot) ?_
    refine OD.wk (Wk.as_ (n := 78) (l' := [(1, _), (8, _), (9, _)]) (S' := []) rfl rfl ⟨lk, lk, lk, trivial⟩) ?_
    refine OD.nil ?_
    refine CD.seq ?_
    refine CD.region ?_
    refine OD.bldS (pl := [(0, _), (1, _), (2, _), (3, _), (4, _), (5, _), (6, _), (7, _)]) (zvs := [.string ⟨#[]⟩, .string ⟨#[]⟩, .string ⟨#[]⟩, .string ⟨#[]⟩, .string ⟨#[]⟩, .string ⟨#[]⟩, .string ⟨#[]⟩, .string ⟨#[]⟩]) (ds := [_, _, _, _, _, _, _, _]) (wants_plain rfl) rfl rfl Tryd.zeroValue9 Tryd.runUnderlying38 Tryd.sizeOf9 rfl rfl (by kernel_rfl) ⟨rfl, opd_const, rfl, opd_const, rfl, opd_const, rfl, opd_const, rfl, opd_const, rfl, opd_const, rfl, opd_const, rfl, opd_const, trivial⟩ rfl rfl (fun b40 => ?_)
    refine OD.perm (perm_q11 (S1 := [⟨b40, 9, 8 * 1, List.flatMap cS (badL)⟩]) (A := [])) ?_
    refine OD.giveL (t := 40) (Sq := [⟨b40, 9, 8 * 1, List.flatMap cS (badL)⟩]) lk (ownL_row (g := cS) (sz := 1) (e := 9) (ls := badL) (Nat.le_refl _) (show 8 ≤ maxLen by decide)) (fm_len cS_len _) (perm_r11 (A := [])) ?_
    refine OD.still (wants_plain rfl) rfl (still_as rfl ot) ?_
    refine OD.wk (Wk.as_ (n := 78) (l' := [(1, _), (8, _), (9, _), (10, _)]) (S' := []) rfl rfl ⟨lk, lk, lk, lk, trivial⟩) ?_
    refine OD.nil ?_
    refine CD.seq ?_
    refine CD.region ?_
    refine OD.bldS (pl := [(0, _), (1, _), (2, _), (3, _), (4, _), (5, _), (6, _), (7, _)]) (zvs := [.int .i64 0, .int .i64 0, .int .i64 0, .int .i64 0, .int .i64 0, .int .i64 0, .int .i64 0, .int .i64 0]) (ds := [_, _, _, _, _, _, _, _]) (wants_plain rfl) rfl rfl Tryd.zeroValue26 Tryd.runUnderlying41 Tryd.sizeOf26 rfl rfl (by kernel_rfl) ⟨rfl, opd_const, rfl, opd_const, rfl, opd_const, rfl, opd_const, rfl, opd_const, rfl, opd_const, rfl, opd_const, rfl, opd_const, trivial⟩ rfl rfl (fun b41 => ?_)
    refine OD.perm (perm_q11 (S1 := [⟨b41, 26, 8 * 1, List.flatMap cE (errB)⟩]) (A := [])) ?_
    refine OD.giveL (t := 41) (Sq := [⟨b41, 26, 8 * 1, List.flatMap cE (errB)⟩]) lk (ownL_row (g := cE) (sz := 1) (e := 26) (ls := errB) (Nat.le_refl _) (show 8 ≤ maxLen by decide)) (fm_len cE_len _) (perm_r11 (A := [])) ?_
    refine OD.still (wants_plain rfl) rfl (still_as rfl ot) ?_
    refine OD.wk (Wk.as_ (n := 78) (l' := [(1, _), (8, _), (9, _), (10, _), (11, _)]) (S' := []) rfl rfl ⟨lk, lk, lk, lk, lk, trivial⟩) ?_
    refine OD.nil ?_
    refine CD.seq ?_
    refine CD.region ?_
    refine OD.still (wants_plain rfl) rfl (still_mv rfl ot) ?_
    refine OD.still (wants_plain rfl) rfl (still_mv rfl ot) ?_
    refine OD.still (wants_plain rfl) rfl (still_r1 (mk := fun y => .call { callee := .builtin .len, args := #[y], argTypes := #[38] }) rfl ot (by first | exact len_list rfl Tryd.runUnderlying38 | exact len_row rfl Tryd.runUnderlying38)) ?_
    refine OD.callP (wants_plain rfl) rfl rfl rfl Tryd.call9 (hpv) ⟨ot, ot, trivial⟩ ?_
    refine OD.still (wants_plain rfl) rfl (still_as rfl ot) ?_
    refine OD.wk (Wk.as_ (n := 78) (l' := [(8, _), (9, _), (10, _), (11, _), (12, _)]) (S' := []) rfl rfl ⟨lk, lk, lk, lk, lk, trivial⟩) ?_
    refine OD.nil ?_
    refine CD.seq ?_
    refine CD.region ?_
    refine OD.still (wants_plain rfl) rfl (still_mv rfl ot) ?_
    refine OD.still (wants_plain rfl) rfl (still_mv rfl ot) ?_
    refine OD.still (wants_plain rfl) rfl (still_mv rfl ot) ?_
    refine OD.still (wants_plain rfl) rfl (still_r2 (mk := Op.indexAddr 38) rfl ot ot (by first | exact ix_list Tryd.runUnderlying38 Tryd.sizeOf9 rfl (by first | assumption | omega) | exact ix_list (j := Int.toNat _) Tryd.runUnderlying38 Tryd.sizeOf9 (Int.toNat_of_nonneg (by omega)).symm (by omega) | exact ix_row Tryd.runUnderlying38 Tryd.sizeOf9 rfl (by first | assumption | omega) | exact ix_row (j := Int.toNat _) Tryd.runUnderlying38 Tryd.sizeOf9 (Int.toNat_of_nonneg (by omega)).symm (by omega))) ?_
    refine OD.still (wants_plain rfl) rfl (still_r1 (mk := Op.load 9) rfl ot (by first | exact ld_fm cP_len Tryd.isAgg9 (by first | assumption | omega) rfl | exact ld_fm0 cP_len Tryd.isAgg9 (by first | assumption | omega) rfl | exact ld_fm cT_len Tryd.isAgg9 (by first | assumption | omega) rfl | exact ld_fm0 cT_len Tryd.isAgg9 (by first | assumption | omega) rfl | exact ld_fm cS_len Tryd.isAgg9 (by first | assumption | omega) rfl | exact ld_fm0 cS_len Tryd.isAgg9 (by first | assumption | omega) rfl | exact ld_fm cE_len Tryd.isAgg9 (by first | assumption | omega) rfl | exact ld_fm0 cE_len Tryd.isAgg9 (by first | assumption | omega) rfl | exact ld_i Tryd.isAgg9 rfl)) ?_
    refine OD.still (wants_plain rfl) rfl (still_bin (r := .string (⟨(showsL [] (toksF l i) ++ c :: r).toArray⟩ : ByteArray)) rfl ot ot (by rw [hble, ← cat_bytes]; exact bin_cat (by show (showsL [] (toksF l i)).toArray.size + (c :: r).toArray.size ≤ _; rw [List.size_toArray, List.size_toArray]; omega))) ?_
    refine OD.callP (wants_plain rfl) rfl rfl rfl Tryd.call10 (hcv) ⟨ot, trivial⟩ ?_
    refine OD.still (wants_plain rfl) rfl (still_mv rfl ot) ?_
    refine OD.still (wants_plain rfl) rfl (still_extract rfl ot rfl) ?_
    refine OD.still (wants_plain rfl) rfl (still_extract rfl ot rfl) ?_
    refine OD.still (wants_plain rfl) rfl (still_extract rfl ot rfl) ?_
    refine OD.still (wants_plain rfl) rfl (still_as rfl ot) ?_
    refine OD.still (wants_plain rfl) rfl (still_as rfl ot) ?_
    refine OD.still (wants_plain rfl) rfl (still_as rfl ot) ?_
    refine OD.wk (Wk.as_ (n := 78) (l' := [(8, _), (9, _), (11, _), (12, _), (13, _), (14, _), (15, _)]) (S' := []) rfl rfl ⟨lk, lk, lk, lk, lk, lk, lk, trivial⟩) ?_
    refine OD.nil ?_
    refine CD.seq ?_
    refine CD.region ?_
    refine OD.still (wants_plain rfl) rfl (still_mv rfl ot) ?_
    refine OD.still (wants_plain rfl) rfl (still_bin rfl ot opd_const bin_eql) ?_
    refine OD.still (wants_plain rfl) rfl (still_mv rfl ot) ?_
    refine OD.split (t := 59) lk (fun hg59 => ?_) (fun hg59 => ?_)
    · have hg59' := hg59; (try simp only [decide_eq_true_eq, decide_eq_false_iff_not, beq_iff_eq, bne_iff_ne, Bool.not_eq_true', Bool.not_eq_false', Bool.not_eq_true, Bool.not_eq_false, beq_eq_false_iff_ne, ne_eq, bne_eq_false_iff_eq, Bool.and_eq_true, Bool.or_eq_true, Bool.not_not] at hg59')
      refine OD.still (wants_T rfl rfl rfl lk (by first | rfl | assumption)) rfl (still_mv rfl ot) ?_
      refine OD.still (wants_T rfl rfl rfl lk (by first | rfl | assumption)) rfl (still_mv rfl ot) ?_
      refine OD.still (wants_T rfl rfl rfl lk (by first | rfl | assumption)) rfl (still_mv rfl ot) ?_
      refine OD.still (wants_T rfl rfl rfl lk (by first | rfl | assumption)) rfl (still_r2 (mk := Op.indexAddr 41) rfl ot ot (by first | exact ix_list Tryd.runUnderlying41 Tryd.sizeOf26 rfl (by first | assumption | omega) | exact ix_list (j := Int.toNat _) Tryd.runUnderlying41 Tryd.sizeOf26 (Int.toNat_of_nonneg (by omega)).symm (by omega) | exact ix_row Tryd.runUnderlying41 Tryd.sizeOf26 rfl (by first | assumption | omega) | exact ix_row (j := Int.toNat _) Tryd.runUnderlying41 Tryd.sizeOf26 (Int.toNat_of_nonneg (by omega)).symm (by omega))) ?_
      refine OD.still (wants_T rfl rfl rfl lk (by first | rfl | assumption)) rfl (still_r1 (mk := Op.load 26) rfl ot (by first | exact ld_fm cP_len Tryd.isAgg26 (by first | assumption | omega) rfl | exact ld_fm0 cP_len Tryd.isAgg26 (by first | assumption | omega) rfl | exact ld_fm cT_len Tryd.isAgg26 (by first | assumption | omega) rfl | exact ld_fm0 cT_len Tryd.isAgg26 (by first | assumption | omega) rfl | exact ld_fm cS_len Tryd.isAgg26 (by first | assumption | omega) rfl | exact ld_fm0 cS_len Tryd.isAgg26 (by first | assumption | omega) rfl | exact ld_fm cE_len Tryd.isAgg26 (by first | assumption | omega) rfl | exact ld_fm0 cE_len Tryd.isAgg26 (by first | assumption | omega) rfl | exact ld_i Tryd.isAgg26 rfl)) ?_
      refine OD.still (wants_T rfl rfl rfl lk (by first | rfl | assumption)) rfl (still_bin rfl ot ot bin_eql) ?_
      refine OD.still (wants_plain rfl) rfl (still_pickT rfl ot (by first | rfl | assumption) ot) ?_
      refine OD.still (wants_plain rfl) rfl (still_mv rfl ot) ?_
      refine OD.split (t := 67) lk (fun hg67 => ?_) (fun hg67 => ?_)
      · have hg67' := hg67; (try simp only [decide_eq_true_eq, decide_eq_false_iff_not, beq_iff_eq, bne_iff_ne, Bool.not_eq_true', Bool.not_eq_false', Bool.not_eq_true, Bool.not_eq_false, beq_eq_false_iff_ne, ne_eq, bne_eq_false_iff_eq, Bool.and_eq_true, Bool.or_eq_true, Bool.not_not] at hg67')
        refine OD.still (wants_T rfl rfl rfl lk (by first | rfl | assumption)) rfl (still_mv rfl ot) ?_
        refine OD.still (wants_T rfl rfl rfl lk (by first | rfl | assumption)) rfl (still_mv rfl ot) ?_
        refine OD.still (wants_T rfl rfl rfl lk (by first | rfl | assumption)) rfl (still_slen rfl rfl ot Tryd.runUnderlying9) ?_
        refine OD.still (wants_T rfl rfl rfl lk (by first | rfl | assumption)) rfl (still_bin rfl ot ot bin_eql) ?_
        refine OD.still (wants_plain rfl) rfl (still_pickT rfl ot (by first | rfl | assumption) ot) ?_
        refine OD.still (wants_plain rfl) rfl (still_mv rfl ot) ?_
        refine OD.split (t := 73) lk (fun hg73 => ?_) (fun hg73 => ?_)
        · have hg73' := hg73; (try simp only [decide_eq_true_eq, decide_eq_false_iff_not, beq_iff_eq, bne_iff_ne, Bool.not_eq_true', Bool.not_eq_false', Bool.not_eq_true, Bool.not_eq_false, beq_eq_false_iff_ne, ne_eq, bne_eq_false_iff_eq, Bool.and_eq_true, Bool.or_eq_true, Bool.not_not] at hg73')
          refine OD.still (wants_T rfl rfl rfl lk (by first | rfl | assumption)) rfl (still_mv rfl ot) ?_
          refine OD.still (wants_T rfl rfl rfl lk (by first | rfl | assumption)) rfl (still_r1 (mk := fun y => .call { callee := .builtin .len, args := #[y], argTypes := #[25] }) rfl ot (by first | exact len_list rfl Tryd.runUnderlying25 | exact len_row rfl Tryd.runUnderlying25)) ?_
          refine OD.still (wants_T rfl rfl rfl lk (by first | rfl | assumption)) rfl (still_bin rfl ot opd_const bin_eql) ?_
          refine OD.still (wants_plain rfl) rfl (still_pickT rfl ot (by first | rfl | assumption) ot) ?_
          refine OD.still (wants_plain rfl) rfl (still_as rfl ot) ?_
          refine OD.wk (Wk.as_ (n := 78) (l' := [(4, _)]) (S' := []) rfl rfl ⟨lk, trivial⟩) ?_
          refine OD.nil ?_
          refine CD.ret ?_
          refine ⟨.inr rfl, _, [], List.nil_sublist _, ret_one Tryd.results5 (res_tmp (Nat.le_of_ble_eq_true rfl) lk), ?_⟩
          exact ⟨by first | rfl | (simp [*]; done), rfl⟩
        · exact absurd hg73 (by rw [sz_of]; simp)
      · exact absurd hg67 (by simp at *)
    · exact absurd hg59 (by simp at *)

/-- What the tables hold. -/
def PowTab (W : World) : Prop := TabX W 3 PW
def RngTab (W : World) : Prop := ∃ ev : Value, (ev = .nilIface ∨ ∃ te pe, ev = .iface te pe) ∧ Tab.TabAt W 2 [ev]
theorem var_blk {W : World} {nm : String} {g : Nat} {cs : Array Value} (hg : Tryd.prog.globalNamed nm = some g) (hv : W.var? Tryd.prog nm = some cs) : ∃ t fz, W.heap[g]? = some (.cells cs t fz) := by
  unfold World.var? at hv
  rw [hg] at hv
  simp only [Option.bind_some] at hv
  split at hv
  · rename_i c t fz hh; cases hv; exact ⟨t, fz, hh⟩
  · cases hv
theorem pow_tab {W : World} {cs : Array Value} {fuel : Nat} {p : List MemPlace} {d : DataW Unit} (hv : W.var? Tryd.prog "internal/strconv.uint64pow10" = some cs)
    (hd : DataW.trod (fun _ => ()) Tryd.prog W 0 (fun _ => true) false fuel 98 cs.toList = some (d, p)) (e : d = Lib.tabData .u64 Lib.pow10Tab) : PowTab W := by
  subst e
  have h := Lib.cells_of_tab Tryd.underlying98 Tryd.underlying83 (by kernel_rfl) (by kernel_rfl) hd
  have hc : cs = (Lib.pow10Tab.map fun z => Value.int .u64 z).toArray := by rw [← h]
  obtain ⟨t, fz, hb⟩ := var_blk (g := 3) (by kernel_rfl) hv
  rw [hc] at hb
  intro i v hi
  match i, hi with
  | 0, hi => cases hi; exact ⟨t, fz, hb⟩
theorem rng_tab {W : World} {cs : Array Value} {fuel : Nat} {p : List MemPlace} {nm : String} {x : DataW Unit} {d : DataW Unit} (hv : W.var? Tryd.prog "strconv.ErrRange" = some cs)
    (hd : DataW.trod (fun _ => ()) Tryd.prog W 0 (fun _ => true) false fuel 54 cs.toList = some (d, p)) (e : d = .iface nm x) : RngTab W := by
  subst e
  obtain ⟨_, u, v, hc, _, _⟩ := iface_of_trod Tryd.underlying54 hd
  obtain ⟨t, fz, hb⟩ := var_blk (g := 2) (by kernel_rfl) hv
  refine ⟨.iface u v, .inr ⟨u, v, rfl⟩, fun i w hi => ?_⟩
  match i, hi with
  | 0, hi =>
    cases hi
    rw [World.var?_cell (by kernel_rfl) hv 0, ← Array.getElem?_toList, hc]; rfl
theorem walkLexPlace (l : List Pc) (v : Value) (hl : l.length ≤ maxLen ∧ ∀ x ∈ l, x.Ok) (a : Int) (wa : (Lit.int .i64 a).wf = true) (w : World) (hP : PowTab w) (hR : RngTab w) (h1 : MarksTab w) {m : Int} (hm : Tab.TabAt w 4 [Value.int .i64 m]) (hv : Rep w (fun _ => False) (.list 3 (l.flatMap cP) l.length) v) :
    Calls Tryd.prog 5 #[v, .int .i64 a] w fun e w' => e = .returned (.bool true) ∧ Below w.heap.size w w' := by
  obtain ⟨ev, he, hR⟩ := hR
  exact (place_vp (G := [(0, marksC), (4, [Value.int .i64 m]), (3, PW), (2, [ev])]) List.mem_cons_self (List.mem_cons_of_mem _ List.mem_cons_self) (List.mem_cons_of_mem _ (List.mem_cons_of_mem _ List.mem_cons_self)) ⟨ev, List.mem_cons_of_mem _ (List.mem_cons_of_mem _ (List.mem_cons_of_mem _ List.mem_cons_self)), he⟩ l hl.1 hl.2 a (wf_bd wa).1 (wf_bd wa).2).runL (vs := [v, .int .i64 a])
    (fun g hg => by
      simp only [List.mem_cons, List.not_mem_nil, or_false] at hg
      rcases hg with rfl | rfl | rfl | rfl
      · exact ⟨by decide, .of h1 rfl⟩
      · exact ⟨by simp, .of hm rfl⟩
      · exact ⟨by simp [PW], hP⟩
      · exact ⟨by simp, .of hR (by rcases he with rfl | ⟨te, pe, rfl⟩ <;> rfl)⟩) (RepL.cons hv (RepL.one (.v _)))

end Go.Proofs.YtdlcfkkkjklanaaDoor.Lx
