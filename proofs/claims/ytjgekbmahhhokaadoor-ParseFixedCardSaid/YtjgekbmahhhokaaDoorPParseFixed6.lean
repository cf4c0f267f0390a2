/-
  What the proof of ParseFixed leans on, part 6 of 6: walks of the program's functions at the level of values, and plain facts of what they compute.
-/
import Derived.Test.YtjgekbmahhhokaaDoorPParseFixed5
namespace Go.Proofs.YtjgekbmahhhokaaDoor.Pa
open Go.RowKit V Pk Go.Proofs.YtjgekbmahhhokaaDoor.Vl Go.Proofs.YtjgekbmahhhokaaDoor.Nm
set_option linter.unusedVariables false
set_option linter.unusedSimpArgs false

variable {G : List (Nat × List Value)}
theorem begin_vp (hm : (0, marksC) ∈ G) (hw : (2, wordsC) ∈ G) (hk_ : (5, cmpC) ∈ G) (hty : (1, typesC) ∈ G) : VP Tryd.prog G 13 [.list 3 (([(⟨1, ⟨#[66, 69, 71, 73, 78]⟩, 0⟩ : Tk)]).flatMap cT) ([(⟨1, ⟨#[66, 69, 71, 73, 78]⟩, 0⟩ : Tk)]).length] (.tup [.agg (cSt ({ st0 with kind := 7 })), .v (.int .i64 ((0 : Nat) : Int)), .v (.int .i64 0)]) := by
 have h := parse_vc (G := G) hm hw hk_ hty [(⟨1, ⟨#[66, 69, 71, 73, 78]⟩, 0⟩ : Tk)] (gts_hs (gts_cons (by decide +kernel) gts_nil))
 rw [parse_ok (l := [(⟨1, ⟨#[66, 69, 71, 73, 78]⟩, 0⟩ : Tk)]) (s := { st0 with kind := 7 }) (p := 1) (os := []) (by decide) (bad_gts (gts_cons (by decide +kernel) gts_nil)) kr_ (by decide)] at h
 exact h
theorem fix_facts (hm : (0, marksC) ∈ G) (hw : (2, wordsC) ∈ G) (hk_ : (5, cmpC) ∈ G) (hty : (1, typesC) ∈ G) {l : List Tk} (ht : ∀ t ∈ l, t.s.size ≤ maxLen ∧ t.n ≤ 9223372036854775807) : ∃ (s : StL) (p : Nat) (e : Int), VP Tryd.prog G 13 [.list 3 (([] ++ l).flatMap cT) ([] ++ l).length] (.tup [.agg (cSt (s)), .v (.int .i64 ((p : Nat) : Int)), .v (.int .i64 e)]) ∧ ((e = 0 ∧ p = 0 ∧ ∃ (ls : List Tk) (e2 : Int), VP Tryd.prog G 16 [.agg (cSt s)] (.tup [.list 3 (ls.flatMap cT) ls.length, .v (.int .i64 e2)]) ∧ (e2 = 10 ∨ e2 = 0 ∧ VP Tryd.prog G 13 [.list 3 ((ls).flatMap cT) (ls).length] (.tup [.agg (cSt (s)), .v (.int .i64 ((0 : Nat) : Int)), .v (.int .i64 0)]) ∧ VP Tryd.prog G 18 [.agg (cSt s), .agg (cSt s)] (.v (.bool true)))) ∨ (e ≠ 0 ∧ s.kind = 0 ∧ p ≤ l.length)) := by
 have h := parse_vc (G := G) hm hw hk_ hty ([] ++ l) ht
 rw [List.nil_append] at h ⊢
 rcases parse_fix ht with ⟨s, hs, hf, g1, g9, gl, gc⟩ | ⟨p, e, hs, hp, he⟩
 ·rw [hs] at h
  refine ⟨s, 0, 0, h, .inl ⟨rfl, rfl, ?_⟩⟩
  have hsv := Show_vp (G := G) hm hw hty s hf
  rw [show_err] at hsv
  refine ⟨_, _, hsv, ?_⟩
  by_cases hn : (showS s).length > 100
  ·left; unfold CheckF; rw [if_neg (by omega), if_neg (by omega), if_pos hn]
  have h0 : CheckF s = 0 := by unfold CheckF; rw [if_neg (by omega), if_neg (by omega), if_neg hn]
  refine .inr ⟨h0, ?_, sameS_vp hm hw hty s hf h0⟩
  rw [show_ok h0]
  have h2 := parse_vc (G := G) hm hw hk_ hty (showS s) (gts_hs (gts_show hf g1 g9 gl gc))
  rw [parse_show hf g1 g9 gl gc (by omega)] at h2
  exact h2
 rw [hs] at h
 exact ⟨stZ, p, e, h, .inr ⟨he, rfl, hp⟩⟩

theorem info24_Ph3 : (Tryd.prog.info? 24).map (fun i => (i.zero, i.size, i.bytes)) = some (some (.agg #[.int .i64 0, .string ⟨#[]⟩, .int .i64 0]), 3, 32) := by kernel_rfl

theorem places24_Ph3 : ∀ w, ((#[{ name := "Kind", type := 3, offset := 0, embedded := false, tag := "", pkgPath := "", byteOffset := 0 }, { name := "Text", type := 9, offset := 1, embedded := false, tag := "", pkgPath := "", byteOffset := 8 }, { name := "Int", type := 3, offset := 2, embedded := false, tag := "", pkgPath := "", byteOffset := 24 }] : Array Field).mapM fun f => do pure (f.offset, ← sizeOf f.type) : Sem (Array (Nat × Nat))).run Tryd.prog w = .ok #[(0, 1), (1, 1), (2, 1)] w := fun w => by simp [Tryd.sizeOf3, Tryd.sizeOf9]

set_option maxHeartbeats 4000000 in
set_option maxRecDepth 100000 in
theorem fixed_vp (hm : (0, marksC) ∈ G) (hw : (2, wordsC) ∈ G) (hk_ : (5, cmpC) ∈ G) (hty : (1, typesC) ∈ G) (l : List Tk) (hl : l.length ≤ 4398046511104) (ht : ∀ t ∈ l, t.s.size ≤ maxLen ∧ t.n ≤ 9223372036854775807) : VP Tryd.prog G 5 [.list 3 (l.flatMap cT) l.length] (.v (.bool true)) := by
 refine VC.body Tryd.func5 rfl Tryd.ntmps5 le_ fun X0 w0 S00 => ?_
 have hbv := begin_vp (G := G) hm hw hk_ hty
 obtain ⟨s, p, e, hP, hcase⟩ := fix_facts (G := G) hm hw hk_ hty ht
 unfold cSt at hP hcase hbv
 refine sr_ ?_
 refine om_ ?_
 refine nm_ [0] ?_
 refine CD.seq ?_
 refine sr_ ?_
 refine os_ (still_bld (pl := [(0, _), (1, _)]) (ds := [_, _, _]) rfl Tryd.zeroValue24 Tryd.runUnderlying24 places24_Ph3 ⟨rfl, opd_const, rfl, opd_const, trivial⟩ rfl rfl) ?_
 refine ob_ (numD 0 [_]) [.int .i64 0, .string ⟨#[]⟩, .int .i64 0] [_, _, _] Tryd.zeroValue24 Tryd.runUnderlying26 Tryd.sizeOf24 (fun b16 => ?_)
 refine OD.perm (perm_q11 (S1 := [⟨b16, 24, 1 * 3, List.flatMap cT ([(⟨1, ⟨#[66, 69, 71, 73, 78]⟩, 0⟩ : Tk)])⟩]) (A := [])) ?_
 refine OD.giveL (t := 16) (Sq := [⟨b16, 24, 1 * 3, List.flatMap cT ([(⟨1, ⟨#[66, 69, 71, 73, 78]⟩, 0⟩ : Tk)])⟩]) lk (ownL_row (g := cT) (sz := 3) (e := 24) (ls := [(⟨1, ⟨#[66, 69, 71, 73, 78]⟩, 0⟩ : Tk)]) (Nat.le_refl _) (show 1 ≤ maxLen by decide)) (fm_len cT_len _) (perm_r11 (A := [])) ?_
 refine oc_ Tryd.call13 (hbv) ?_
 refine om_ ?_
 refine os_ ex_ ?_
 refine os_ ex_ ?_
 refine os_ ex_ ?_
 refine OD.alloc (ds := [_, _, _, _, _, _, _, _, _, _, _, _]) wp_ rfl rfl Tryd.zeroValue32 rfl (fun b3 => ?_)
 refine ot_ 0 [_, _, _, _, _, _, _, _, _, _, _, _] Tryd.sizeOf32 ?_
 refine om_ ?_
 refine om_ ?_
 refine on_ [(0, _), (3, _), (5, _)] [⟨b3, 32, 12, [_, _, _, _, _, _, _, _, _, _, _, _]⟩] ?_
 refine sr_ ?_
 refine om_ ?_
 refine os_ bn_ ?_
 refine om_ ?_
 refine OD.split (t := 23) lk (fun hg23 => ?_) (fun hg23 => ?_)
 ·exact absurd hg23 (by simp)
 have hg23' := hg23; (try simp only [V.cnd, ne_eq] at hg23')
 refine os_ (fa_ 0) ?_
 refine os_ (lb_ 0) ?_
 refine os_ bn_ ?_
 refine os_ pkF_ ?_
 refine nm_ [0, 27] ?_
 refine CD.cond ot (fun hc0 => ?_) (fun hc0 => ?_)
 ·exact absurd hc0 (by simp)
 have hc0' := hc0
 (try simp only [V.cnd, ne_eq] at hc0')
 refine CD.skip ?_
 refine sr_ ?_
 refine om_ ?_
 refine OD.appendAny (ls := []) (new := l) (Sq := []) cT_len cT_one wp_ rfl rfl Tryd.underlying26 info24_Ph3 rfl (by decide) Tryd.runUnderlying26 Tryd.sizeOf24 opd_const ownL_nil (perm_r11 (A := [_])) ot (by have hmx : maxLen = 9223372036854775807 := rfl; (try simp only [List.length_append, List.length_cons, List.length_nil]); omega) (by have hmx : maxLen = 9223372036854775807 := rfl; (try simp only [List.length_append, List.length_cons, List.length_nil]); omega) (fun ad30 cp30 S30 ho30 => ?_)
 refine OD.perm (perm_q11 (A := [_])) ?_
 refine OD.giveL (t := 30) (Sq := S30) lk ho30 (fm_len cT_len _) (perm_r11 (A := [_])) ?_
 refine oc_ Tryd.call13 (hP) ?_
 refine om_ ?_
 refine os_ ex_ ?_
 refine os_ ex_ ?_
 refine os_ ex_ ?_
 refine OD.alloc (ds := [_, _, _, _, _, _, _, _, _, _, _, _]) wp_ rfl rfl Tryd.zeroValue32 rfl (fun b6 => ?_)
 refine ot_ 0 [_, _, _, _, _, _, _, _, _, _, _, _] Tryd.sizeOf32 ?_
 refine om_ ?_
 refine om_ ?_
 refine on_ [(0, _), (6, _), (7, _), (8, _)] [⟨b6, 32, 12, [_, _, _, _, _, _, _, _, _, _, _, _]⟩, ⟨b3, 32, 12, [_, _, _, _, _, _, _, _, _, _, _, _]⟩] ?_
 refine CD.seq ?_
 refine sr_ ?_
 refine om_ ?_
 refine os_ bn_ ?_
 refine nm_ [0, 6, 7, 36] ?_
 refine CD.cond ot (fun hc1 => ?_) (fun hc1 => ?_)
 ·have hc1' := hc1
  (try simp only [V.cnd, ne_eq] at hc1')
  have he : e ≠ 0 := by simpa using hc1
  obtain ⟨-, hk0, hpl⟩ := hcase.resolve_left (fun h => he h.1)
  refine sr_ ?_
  refine os_ (fa_ 0) ?_
  refine os_ (lb_ 0) ?_
  refine os_ bn_ ?_
  refine om_ ?_
  refine OD.split (t := 40) lk (fun hg40 => ?_) (fun hg40 => ?_)
  ·have hg40' := hg40; (try simp only [V.cnd, ne_eq] at hg40')
   refine om_ ?_
   refine os_ bn_ ?_
   refine os_ pkT_ ?_
   refine om_ ?_
   refine OD.split (t := 44) lk (fun hg44 => ?_) (fun hg44 => ?_)
   ·have hg44' := hg44; (try simp only [V.cnd, ne_eq] at hg44')
    refine om_ ?_
    refine om_ ?_
    refine os_ ln_ ?_
    refine os_ bn_ ?_
    refine os_ pkT_ ?_
    refine om_ ?_
    refine nm_ [2] ?_
    refine CD.ret ?_
    refine r1_ ?_
    first | exact ⟨rfl, rfl⟩ | (refine ⟨vb ?_, rfl⟩; simp [*]; done) | (refine ⟨vb ?_, rfl⟩; simp; omega)
   exact absurd hg44 (by simp)
  exact absurd hg40 (by simp [hk0])
 have hc1' := hc1
 (try simp only [V.cnd, ne_eq] at hc1')
 have he : e = 0 := by simpa using hc1
 subst he
 obtain ⟨-, hp0, ls, e2, hsv, hrest⟩ := hcase.resolve_right (fun h => h.1 rfl)
 subst hp0
 refine CD.skip ?_
 refine sr_ ?_
 refine os_ (lab_ 0 [_, _, _, _, _, _, _, _, _, _, _, _]) ?_
 refine oc_ Tryd.call16 (hsv) ?_
 refine om_ ?_
 refine os_ ex_ ?_
 refine os_ ex_ ?_
 refine om_ ?_
 refine om_ ?_
 refine on_ [(6, _), (7, _), (9, _), (10, _)] [⟨b6, 32, 12, [_, _, _, _, _, _, _, _, _, _, _, _]⟩, ⟨b3, 32, 12, [_, _, _, _, _, _, _, _, _, _, _, _]⟩] ?_
 refine CD.seq ?_
 refine sr_ ?_
 refine om_ ?_
 refine os_ bn_ ?_
 refine nm_ [6, 7, 9, 10, 56] ?_
 refine CD.cond ot (fun hc2 => ?_) (fun hc2 => ?_)
 ·have hc2' := hc2
  (try simp only [V.cnd, ne_eq] at hc2')
  have he2 : e2 = 10 := hrest.resolve_right (fun h => absurd h.1 (by simpa using hc2))
  refine sr_ ?_
  refine om_ ?_
  refine os_ bn_ ?_
  refine om_ ?_
  refine nm_ [2] ?_
  refine CD.ret ?_
  refine r1_ ?_
  first | exact ⟨rfl, rfl⟩ | (refine ⟨vb ?_, rfl⟩; simp [*]; done) | (refine ⟨vb ?_, rfl⟩; simp; omega)
 have hc2' := hc2
 (try simp only [V.cnd, ne_eq] at hc2')
 have he2 : e2 = 0 := by simpa using hc2
 obtain ⟨-, hP2, hS⟩ := hrest.resolve_left (by omega)
 subst he2
 refine CD.skip ?_
 refine sr_ ?_
 refine om_ ?_
 refine oc_ Tryd.call13 (hP2) ?_
 refine om_ ?_
 refine os_ ex_ ?_
 refine os_ ex_ ?_
 refine os_ ex_ ?_
 refine OD.alloc (ds := [_, _, _, _, _, _, _, _, _, _, _, _]) wp_ rfl rfl Tryd.zeroValue32 rfl (fun b11 => ?_)
 refine ot_ 0 [_, _, _, _, _, _, _, _, _, _, _, _] Tryd.sizeOf32 ?_
 refine om_ ?_
 refine om_ ?_
 refine on_ [(6, _), (7, _), (11, _), (13, _)] [⟨b11, 32, 12, [_, _, _, _, _, _, _, _, _, _, _, _]⟩, ⟨b6, 32, 12, [_, _, _, _, _, _, _, _, _, _, _, _]⟩, ⟨b3, 32, 12, [_, _, _, _, _, _, _, _, _, _, _, _]⟩] ?_
 refine sr_ ?_
 refine om_ ?_
 refine os_ bn_ ?_
 refine om_ ?_
 refine OD.split (t := 67) lk (fun hg67 => ?_) (fun hg67 => ?_)
 ·have hg67' := hg67; (try simp only [V.cnd, ne_eq] at hg67')
  refine os_ (lab_ 1 [_, _, _, _, _, _, _, _, _, _, _, _]) ?_
  refine os_ (lab_ 0 [_, _, _, _, _, _, _, _, _, _, _, _]) ?_
  refine OD.callP wt_ rfl rfl rfl Tryd.call18 (hS) ⟨ot, ot, trivial⟩ ?_
  refine os_ pkT_ ?_
  refine om_ ?_
  refine OD.split (t := 72) lk (fun hg72 => ?_) (fun hg72 => ?_)
  ·have hg72' := hg72; (try simp only [V.cnd, ne_eq] at hg72')
   refine om_ ?_
   refine os_ bn_ ?_
   refine os_ pkT_ ?_
   refine om_ ?_
   refine on_ [(2, _)] [⟨b11, 32, 12, [_, _, _, _, _, _, _, _, _, _, _, _]⟩, ⟨b6, 32, 12, [_, _, _, _, _, _, _, _, _, _, _, _]⟩, ⟨b3, 32, 12, [_, _, _, _, _, _, _, _, _, _, _, _]⟩] ?_
   refine CD.ret ?_
   refine ⟨.inr rfl, rt_ Tryd.results5 ?_⟩
   first | exact ⟨rfl, rfl⟩ | (refine ⟨vb ?_, rfl⟩; simp [*]; done) | (refine ⟨vb ?_, rfl⟩; simp; omega)
  exact absurd hg72 (by simp)
 exact absurd hg67 (by simp)

set_option maxRecDepth 100000
theorem rep_lenT {w : World} {L : Nat → Prop} {sz n : Nat} {cs : List D} {v : Value} (h : Rep w L (.list sz cs n) v) : ∃ a cap, v = .slice a n cap := by
 cases h
 ·exact ⟨_, _, rfl⟩
 exact ⟨_, _, rfl⟩
theorem rd_tok {H : Type} {enc : TypeId × Value → H} {w : World} {base : Nat} {sp : Nat → Bool} {held : Bool} : Rds enc Tryd.prog w base sp held 24 cT (fun t : Tk => t.s.size ≤ maxLen ∧ t.n ≤ 9223372036854775807) :=
 (rd_struct3 (n0 := 1) (n1 := 1) (n2 := 1) Tryd.underlying24 kr_ rfl rfl rfl kr_ kr_ kr_ (rd_int Tryd.underlying3) (rd_string Tryd.underlying9) (rd_int Tryd.underlying3)).map (fun a => (⟨a.1, a.2.1, a.2.2⟩ : Tk)) (fun _ => rfl) (fun _ h => ⟨h.2.1, h.2.2.2⟩)
theorem rd_toks {H : Type} {enc : TypeId × Value → H} {w : World} {base b' : Nat} {sp : Nat → Bool} {held : Bool} {v : Value} {d : DataW H} {p : List MemPlace} (hval : Value.okWide Tryd.prog w .any b' 26 v) (h : DataW.Trod enc Tryd.prog w base sp held 26 v d p) :
  ∃ l : List Tk, Rep w (fun _ => False) (.list 3 (l.flatMap cT) l.length) v ∧ (∀ (ts : List TypeId) (ds : List (DataW H)), (DataW.weightsEach Tryd.prog ts ds).all (· ≤ reachBytes) = true → ∀ j : Nat, ts[j]? = some 26 → ds[j]? = some d → l.length ≤ 4398046511104 ∧ ∀ t ∈ l, t.s.size ≤ maxLen ∧ t.n ≤ 9223372036854775807) ∧ True := by
 obtain ⟨l, h1, h2, h3⟩ := rd_slice Tryd.underlying26 kr_ (by decide) rd_tok cT_len hval h
 refine ⟨l, h1, fun ts ds hz j ht hd => ⟨?_, h2⟩, trivial⟩
 obtain ⟨a, cap, rfl⟩ := rep_lenT h1
 obtain ⟨m, hm⟩ := h
 rcases Go.Deep.open_slice Tryd.underlying26 hm with ⟨e, hx⟩ | ⟨a', len, cap', mm, n, Dd, Pl, e, hb, hl, hmx, hmm, hx, _⟩
 ·have e1 : Value.slice a l.length cap = .slice none 0 0 := by simpa [Value.cells] using e
  have : l.length = 0 := by injection e1
  omega
 have e1 : Value.slice a l.length cap = .slice (some a') len cap' := by simpa [Value.cells] using e
 have el : l.length = len := by injection e1
 have hd' := congrArg Prod.fst hx
 simp only at hd'
 subst hd'
 have := sized_slice hz ht hd Tryd.underlying26
 rw [show Tryd.prog.bytesOf 24 = 32 by kernel_rfl, List.length_map, List.length_range] at this
 have hr : reachBytes = 140737488351232 := by decide
 omega
theorem walkParseFixed (l : List Tk) (v : Value) (ok : l.length ≤ 4398046511104 ∧ ∀ t ∈ l, t.s.size ≤ maxLen ∧ t.n ≤ 9223372036854775807) (w : World) (h1 : MarksTab w) (h2 : WordsTab w) (h3 : TypesTab w) (h4 : CmpTab w) (hv : Rep w (fun _ => False) (.list 3 (l.flatMap cT) l.length) v) : Calls Tryd.prog 5 #[v] w fun e w' => e = .returned (.bool true) ∧ Below w.heap.size w w' :=
 (fixed_vp (G := TGP) tp1 tp2 tp4 tp3 l ok.1 ok.2).runL (tgpx h1 h2 h3 h4) (vs := [v]) (RepL.cons hv (RepL.vs w _ []))

end Go.Proofs.YtjgekbmahhhokaaDoor.Pa
