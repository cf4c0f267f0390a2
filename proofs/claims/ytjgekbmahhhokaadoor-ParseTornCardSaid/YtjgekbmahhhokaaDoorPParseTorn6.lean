/-
  What the proof of ParseTorn leans on, part 6 of 6: walks of the program's functions at the level of values, and plain facts of what they compute.
-/
import Derived.Test.YtjgekbmahhhokaaDoorPParseTorn5
set_option linter.unusedVariables false
set_option linter.unusedSimpArgs false
set_option maxRecDepth 100000
set_option maxHeartbeats 4000000
namespace Go.Proofs.YtjgekbmahhhokaaDoor.Pa
open Go.Proofs.Tryd
open Go.RowKit V Pk Go.Proofs.YtjgekbmahhhokaaDoor.Vl Go.Proofs.YtjgekbmahhhokaaDoor.Nm
variable {G : List (Nat × List Value)}
theorem bad_at {l : List Tk} {i : Nat} (h : i < l.length) (hq : badTk l 0 = badTk (l.drop i) i) (hc : checkT l[i] ≠ 0) : badTk l 0 = some (i, checkT l[i]) := by
 rw [hq, List.drop_eq_getElem_cons h, badTk, if_neg hc]
theorem bad_on {l : List Tk} {i : Nat} (h : i < l.length) (hq : badTk l 0 = badTk (l.drop i) i) (hc : checkT l[i] = 0) : badTk l 0 = badTk (l.drop (i + 1)) (i + 1) := by
 rw [hq, List.drop_eq_getElem_cons h, badTk, if_pos hc]
theorem bad_none : ∀ {l : List Tk} {i : Nat}, badTk l i = none → ∀ t ∈ l, checkT t = 0
 | [], _, _, t, h => by cases h
 | a :: r, i, h, t, ht => by
  unfold badTk at h
  split at h
  ·rename_i hc
   rcases List.mem_cons.1 ht with rfl | ht
   ·exact hc
   exact bad_none h t ht
  cases h
theorem num_pos {t : Tk} (h : checkT t = 0) (hk : t.k = 2) : 0 ≤ t.n := by
 unfold checkT at h
 rw [if_neg (by omega), if_pos hk] at h
 split at h
 ·cases h
 omega
theorem parse_big {l : List Tk} (h : l.length > 100) : parseF l = (stZ, 0, 10) := by unfold parseF; rw [if_pos h]
theorem parse_bad {l : List Tk} {i : Nat} {e : Int} (h : l.length ≤ 100) (hb : badTk l 0 = some (i, e)) : parseF l = (stZ, i, e) := by unfold parseF; rw [if_neg (by omega), hb]
theorem parse_no {l : List Tk} {p : Nat} {e : Int} (h : l.length ≤ 100) (hb : badTk l 0 = none) (hs : stP l 0 [] = .no p e) : parseF l = (stZ, p, e) := by unfold parseF; rw [if_neg (by omega), hb, hs]; rfl
theorem parse_ok {l : List Tk} {s : StL} {p : Nat} {os : List OpL} (h : l.length ≤ 100) (hb : badTk l 0 = none) (hs : stP l 0 [] = .ok s p os) (hp : ¬ p < l.length) : parseF l = (s, 0, 0) := by
 unfold parseF; rw [if_neg (by omega), hb, hs]; simp only [Rs.bind, if_neg hp]
theorem parse_more {l : List Tk} {s : StL} {p : Nat} {os : List OpL} (h : l.length ≤ 100) (hb : badTk l 0 = none) (hs : stP l 0 [] = .ok s p os) (hp : p < l.length) : parseF l = (stZ, p, if l.length ≤ p then 7 else 6) := by
 unfold parseF; rw [if_neg (by omega), hb, hs]; simp only [Rs.bind, if_pos hp, gv]
def dvP (r : StL × Nat × Int) : D := .tup [.agg (cSt r.1), .v (.int .i64 ((r.2.1 : Nat) : Int)), .v (.int .i64 r.2.2)]
theorem recoverD_ret (c0 : Frame) (cs : List Frame) (h : c0.mode = .returning) : (recoverD (c0 :: cs) = some (.nilIface, { c0 with mode := .returning } :: cs)) ∨ (recoverD (c0 :: cs) = none ∧ Value.nilIface = .nilIface ∧ FrameMode.returning = .returning) := .inr ⟨by simp [recoverD, h], rfl, rfl⟩
theorem recoverD_pan (v : Value) (c0 : Frame) (cs : List Frame) (h : c0.mode = .panicking [{ v := v, recovered := false }]) : (recoverD (c0 :: cs) = some (v, { c0 with mode := .panicking [{ v := v, recovered := true }] } :: cs)) ∨ (recoverD (c0 :: cs) = none ∧ v = .nilIface ∧ FrameMode.panicking [{ v := v, recovered := true }] = .panicking [{ v := v, recovered := false }]) := .inl (by simp [recoverD, h])

theorem cl_ret (b2 b3 b4 : Nat) (S : List Blk) : VDf Tryd.prog G 24 [.v (.pointer (some ⟨b2, 0, none⟩)), .v (.pointer (some ⟨b3, 0, none⟩)), .v (.pointer (some ⟨b4, 0, none⟩))] S .returning .returning (fun S' => S' = S) := by
 refine VDf.recover (v := .nilIface) func24 rfl ntmps24 results24 le_ rfl rfl rfl rfl rfl rfl (by decide) (fun c0 cs h => recoverD_ret c0 cs h) fun X0 w0 => ?_
 refine sr_ ?_
 refine om_ ?_
 refine os_ (still_errNo rfl ot underlying20) ?_
 refine OD.wk (Wk.as_ (n := 15) (l' := [(0, _), (1, _), (2, _), (3, _), (7, _)]) (S' := S) rfl rfl sl_) ?_
 refine OD.nil ?_
 refine CD.cond ot (fun hc0 => ?_) (fun hc0 => ?_)
 ·exact absurd hc0 (by decide)
 refine CD.skip ?_
 exact ⟨rfl, rfl⟩

theorem places32_Pbc : ∀ w, ((#[{ name := "Kind", type := 3, offset := 0, embedded := false, tag := "", pkgPath := "", byteOffset := 0 }, { name := "Table", type := 9, offset := 1, embedded := false, tag := "", pkgPath := "", byteOffset := 8 }, { name := "Cols", type := 27, offset := 2, embedded := false, tag := "", pkgPath := "", byteOffset := 24 }, { name := "Row", type := 28, offset := 3, embedded := false, tag := "", pkgPath := "", byteOffset := 48 }, { name := "Names", type := 29, offset := 4, embedded := false, tag := "", pkgPath := "", byteOffset := 72 }, { name := "Count", type := 4, offset := 5, embedded := false, tag := "", pkgPath := "", byteOffset := 96 }, { name := "Where", type := 30, offset := 6, embedded := false, tag := "", pkgPath := "", byteOffset := 104 }, { name := "Order", type := 9, offset := 7, embedded := false, tag := "", pkgPath := "", byteOffset := 128 }, { name := "Down", type := 4, offset := 8, embedded := false, tag := "", pkgPath := "", byteOffset := 144 }, { name := "Limit", type := 3, offset := 9, embedded := false, tag := "", pkgPath := "", byteOffset := 152 }, { name := "Set", type := 9, offset := 10, embedded := false, tag := "", pkgPath := "", byteOffset := 160 }, { name := "To", type := 30, offset := 11, embedded := false, tag := "", pkgPath := "", byteOffset := 176 }] : Array Field).mapM fun f => do pure (f.offset, ← sizeOf f.type) : Sem (Array (Nat × Nat))).run Tryd.prog w = .ok #[(0, 1), (1, 1), (2, 1), (3, 1), (4, 1), (5, 1), (6, 1), (7, 1), (8, 1), (9, 1), (10, 1), (11, 1)] w := fun w => by simp [sizeOf27, sizeOf28, sizeOf29, sizeOf3, sizeOf30, sizeOf4, sizeOf9]

theorem cl_pan0 (k2 k3 k4 p : Nat) (e : Int) (c4 c3 : D) (cs : List D) (hcs : cs.length = 12) : VDf Tryd.prog G 24 [.v (.pointer (some ⟨k2, 0, none⟩)), .v (.pointer (some ⟨k3, 0, none⟩)), .v (.pointer (some ⟨k4, 0, none⟩))] [⟨k4, 33, 1, [c4]⟩, ⟨k3, 3, 1, [c3]⟩, ⟨k2, 32, 12, cs⟩] (.panicking (wrC p e)) (.panicking [{ v := .iface 67 (.agg #[.int .i64 (p : Nat), .int .i64 e]), recovered := true }]) (fun S' => ∃ B, S' = [B, ⟨k4, 33, 1, [.v (.int .i64 e)]⟩, ⟨k3, 3, 1, [.v (.int .i64 ((p : Nat) : Int))]⟩, ⟨k2, 32, 12, [.v (.int .i64 0), .v (.string ⟨#[]⟩), .v (.slice none 0 0), .v (.slice none 0 0), .v (.slice none 0 0), .v (.bool false), .v (.slice none 0 0), .v (.string ⟨#[]⟩), .v (.bool false), .v (.int .i64 0), .v (.string ⟨#[]⟩), .v (.slice none 0 0)]⟩]) := by
 rcases cs with _ | ⟨x0, _ | ⟨x1, _ | ⟨x2, _ | ⟨x3, _ | ⟨x4, _ | ⟨x5, _ | ⟨x6, _ | ⟨x7, _ | ⟨x8, _ | ⟨x9, _ | ⟨x10, _ | ⟨x11, _ | ⟨x12, cs⟩⟩⟩⟩⟩⟩⟩⟩⟩⟩⟩⟩⟩ <;> first | (simp at hcs; done) | skip
 refine VDf.recover (v := .iface 67 (.agg #[.int .i64 (p : Nat), .int .i64 e])) func24 rfl ntmps24 results24 le_ rfl rfl rfl rfl rfl rfl (by decide) (fun c0 cs h => recoverD_pan _ c0 cs h) fun X0 w0 => ?_
 refine sr_ ?_
 refine om_ ?_
 refine os_ (still_errYes rfl ot underlying20) ?_
 refine on_ [(0, _), (1, _), (2, _), (3, _), (7, _)] [⟨k4, 33, 1, [_]⟩, ⟨k3, 3, 1, [_]⟩, ⟨k2, 32, 12, [_, _, _, _, _, _, _, _, _, _, _, _]⟩] ?_
 refine CD.cond ot (fun hc0 => ?_) (fun hc0 => ?_)
 ·have hc0' := hc0
  (try simp only [V.cnd, ne_eq] at hc0')
  refine sr_ ?_
  refine om_ ?_
  refine os_ (still_tassert (vs := [.int .i64 ((p : Nat) : Int), .int .i64 e]) rfl ot underlying67) ?_
  refine OD.alloc (ds := [_, _]) wp_ rfl rfl zeroValue67 rfl (fun b4 => ?_)
  refine ot_ 0 [_, _] sizeOf67 ?_
  refine on_ [(0, _), (1, _), (2, _), (4, _)] [⟨b4, 67, 2, [_, _]⟩, ⟨k4, 33, 1, [_]⟩, ⟨k3, 3, 1, [_]⟩, ⟨k2, 32, 12, [_, _, _, _, _, _, _, _, _, _, _, _]⟩] ?_
  refine CD.draw (bks (List.take 1 _)) kr_ (fun _ h => (List.Sublist.map _ (List.take_sublist _ _)).subset h) ?_
  refine a0_ 0 rfl (still_bld (pl := []) (ds := [_, _, _, _, _, _, _, _, _, _, _, _]) rfl zeroValue32 runUnderlying32 places32_Pbc trivial rfl rfl) ?_
  refine a0_ 1 rfl (fa_ 0) ?_
  refine a0_ 2 rfl (lb_ 0) ?_
  refine a0_ 3 rfl (fa_ 1) ?_
  refine a0_ 4 rfl (lb_ 0) ?_
  refine AD0.later rfl ?_
  refine AD.one (i := 5) kr_ ?_
  refine AStep.store (k := 3) (cs' := [_, _, _, _, _, _, _, _, _, _, _, _]) rfl wp_ rfl rfl ot rfl rfl ot rfl rfl sizeOf32 rfl rfl rfl (by intro b hb; simp [bks, St.put] at hb ⊢; try first | exact hb | simp [hb] | (rcases hb with hb | hb <;> simp [hb]) | (rcases hb with hb | hb | hb <;> simp [hb])) ?_
  refine AD.one (i := 6) kr_ ?_
  refine AStep.store (k := 2) (cs' := [_]) rfl wp_ rfl rfl ot rfl rfl ot rfl rfl sizeOf3 rfl rfl rfl (by intro b hb; simp [bks, St.put] at hb ⊢; try first | exact hb | simp [hb] | (rcases hb with hb | hb <;> simp [hb]) | (rcases hb with hb | hb | hb <;> simp [hb])) ?_
  refine AD.one (i := 7) kr_ ?_
  refine AStep.store (k := 1) (cs' := [_]) rfl wp_ rfl rfl ot rfl rfl ot rfl rfl sizeOf33 rfl rfl rfl (by intro b hb; simp [bks, St.put] at hb ⊢; try first | exact hb | simp [hb] | (rcases hb with hb | hb <;> simp [hb]) | (rcases hb with hb | hb | hb <;> simp [hb])) ?_
  refine aw_ [] [⟨b4, 67, 2, [_, _]⟩, ⟨k4, 33, 1, [_]⟩, ⟨k3, 3, 1, [_]⟩, ⟨k2, 32, 12, [_, _, _, _, _, _, _, _, _, _, _, _]⟩] ?_
  refine AD.done kr_ ?_
  exact ⟨rfl, _, rfl⟩
 exact absurd hc0 (by decide)

theorem places70_Pbc : ∀ w, ((#[{ name := "l", type := 26, offset := 0, embedded := false, tag := "", pkgPath := "padlock/parse", byteOffset := 0 }, { name := "at", type := 3, offset := 1, embedded := false, tag := "", pkgPath := "padlock/parse", byteOffset := 24 }, { name := "ops", type := 30, offset := 2, embedded := false, tag := "", pkgPath := "padlock/parse", byteOffset := 32 }] : Array Field).mapM fun f => do pure (f.offset, ← sizeOf f.type) : Sem (Array (Nat × Nat))).run Tryd.prog w = .ok #[(0, 1), (1, 1), (2, 1)] w := fun w => by simp [sizeOf26, sizeOf3, sizeOf30]

theorem parse_vc (hm : (0, marksC) ∈ G) (hw : (2, wordsC) ∈ G) (hk : (5, cmpC) ∈ G) (hty : (1, typesC) ∈ G) (l : List Tk) (hs : ∀ t ∈ l, t.s.size ≤ maxLen ∧ t.n ≤ 9223372036854775807) : VP Tryd.prog G 13 [.list 3 (l.flatMap cT) l.length] (dvP (parseF l)) := by
 refine VC.closing func13 rfl ntmps13 le_ fun X w0 => ?_
 refine KD.seqC (Q1 := fun e y => e = .normal ∧ ∃ b2 b3 b4, y = (⟨44, [(0, .list 3 (l.flatMap cT) l.length), (2, .v (.pointer (some ⟨b2, 0, none⟩))), (3, .v (.pointer (some ⟨b3, 0, none⟩))), (4, .v (.pointer (some ⟨b4, 0, none⟩)))], [⟨b4, 33, 1, [.v (.int .i64 0)]⟩, ⟨b3, 3, 1, [.v (.int .i64 0)]⟩, ⟨b2, 32, 12, [.v (.int .i64 0), .v (.string ⟨#[]⟩), .v (.slice none 0 0), .v (.slice none 0 0), .v (.slice none 0 0), .v (.bool false), .v (.slice none 0 0), .v (.string ⟨#[]⟩), .v (.bool false), .v (.int .i64 0), .v (.string ⟨#[]⟩), .v (.slice none 0 0)]⟩]⟩ : St)) (fun _ _ h => h) ?_ ?_ (fun e a w y he _ h => absurd h.1 he)
 ·skip
  refine CD.region ?_
  refine OD.alloc (ds := [_, _, _, _, _, _, _, _, _, _, _, _]) wp_ rfl rfl zeroValue32 rfl (fun b2 => ?_)
  refine OD.alloc (ds := [_]) wp_ rfl rfl zeroValue3 rfl (fun b3 => ?_)
  refine OD.alloc (ds := [_]) wp_ rfl rfl zeroValue33 rfl (fun b4 => ?_)
  refine on_ [(0, _), (2, _), (3, _), (4, _)] [⟨b4, 33, 1, [_]⟩, ⟨b3, 3, 1, [_]⟩, ⟨b2, 32, 12, [_, _, _, _, _, _, _, _, _, _, _, _]⟩] ?_
  exact ⟨rfl, _, _, _, rfl⟩
 rintro _ ⟨-, b2, b3, b4, rfl⟩
 refine KD.seqC (Q1 := fun e y => (e = .normal ∧ l.length ≤ 100 ∧ y = (⟨44, [(0, .list 3 (l.flatMap cT) l.length), (2, .v (.pointer (some ⟨b2, 0, none⟩))), (3, .v (.pointer (some ⟨b3, 0, none⟩))), (4, .v (.pointer (some ⟨b4, 0, none⟩)))], [⟨b4, 33, 1, [.v (.int .i64 0)]⟩, ⟨b3, 3, 1, [.v (.int .i64 0)]⟩, ⟨b2, 32, 12, [.v (.int .i64 0), .v (.string ⟨#[]⟩), .v (.slice none 0 0), .v (.slice none 0 0), .v (.slice none 0 0), .v (.bool false), .v (.slice none 0 0), .v (.string ⟨#[]⟩), .v (.bool false), .v (.int .i64 0), .v (.string ⟨#[]⟩), .v (.slice none 0 0)]⟩]⟩ : St)) ∨ (e = .ret ∧ ∃ r S', List.Sublist S' y.S ∧ Ret Tryd.prog Tryd.f13 y r ∧ (r = dvP (parseF l) ∧ S' = []))) (fun _ _ h => h) ?_ ?_ (fun e a w y he hs h => by (rcases h with h | ⟨rfl, h⟩; exact absurd h.1 he; exact leave_ret hs h))
 ·skip
  refine sr_ ?_
  refine om_ ?_
  refine os_ ln_ ?_
  refine os_ bn_ ?_
  refine nm_ [0, 2, 3, 4, 11] ?_
  refine CD.cond ot (fun hc0 => ?_) (fun hc0 => ?_)
  ·have hc0' := hc0
   (try simp only [V.cnd, ne_eq] at hc0')
   have hbig : l.length > 100 := by simp at hc0; omega
   refine sr_ ?_
   refine os_ (still_bld (pl := []) (ds := [_, _, _, _, _, _, _, _, _, _, _, _]) rfl zeroValue32 runUnderlying32 places32_Pbc trivial rfl rfl) ?_
   refine ot_ 2 [_, _, _, _, _, _, _, _, _, _, _, _] sizeOf32 ?_
   refine ot_ 1 [_] sizeOf3 ?_
   refine ot_ 0 [_] sizeOf33 ?_
   refine on_ [(0, _), (2, _), (3, _), (4, _)] [⟨b4, 33, 1, [_]⟩, ⟨b3, 3, 1, [_]⟩, ⟨b2, 32, 12, [_, _, _, _, _, _, _, _, _, _, _, _]⟩] ?_
   refine CD.ret ?_
   exact Or.inr ⟨rfl, dvP (stZ, 0, 10), [], List.nil_sublist _, (ret_three results13 (res_cells (k := 2) (ds := [_, _, _, _, _, _, _, _, _, _, _, _]) le_ lk rfl rfl isAgg32 sizeOf32 rfl rfl) (res_cell (k := 1) le_ lk rfl rfl isAgg3 rfl) (res_cell (k := 0) le_ lk rfl rfl isAgg33 rfl)).gv (gv_tup ⟨gv_agg (by repeat (first | exact trivial | exact ⟨gv_rfl, trivial⟩ | exact ⟨gv_nil, trivial⟩ | refine ⟨gv_rfl, ?_⟩ | refine ⟨gv_nil, ?_⟩)), gv_rfl, gv_rfl, trivial⟩), (by rw [parse_big hbig]), rfl⟩
  have hc0' := hc0
  (try simp only [V.cnd, ne_eq] at hc0')
  have hl : l.length ≤ 100 := by simp at hc0; omega
  refine CD.wk (Wk.as_ (n := 44) (l' := [(0, _), (2, _), (3, _), (4, _)]) (S' := [⟨b4, 33, 1, [_]⟩, ⟨b3, 3, 1, [_]⟩, ⟨b2, 32, 12, [_, _, _, _, _, _, _, _, _, _, _, _]⟩]) rfl rfl sl_) ?_
  refine CD.skip ?_
  exact Or.inl ⟨rfl, hl, rfl⟩
 intro y hy
 obtain ⟨hl, rfl⟩ : l.length ≤ 100 ∧ y = (⟨44, [(0, .list 3 (l.flatMap cT) l.length), (2, .v (.pointer (some ⟨b2, 0, none⟩))), (3, .v (.pointer (some ⟨b3, 0, none⟩))), (4, .v (.pointer (some ⟨b4, 0, none⟩)))], [⟨b4, 33, 1, [.v (.int .i64 0)]⟩, ⟨b3, 3, 1, [.v (.int .i64 0)]⟩, ⟨b2, 32, 12, [.v (.int .i64 0), .v (.string ⟨#[]⟩), .v (.slice none 0 0), .v (.slice none 0 0), .v (.slice none 0 0), .v (.bool false), .v (.slice none 0 0), .v (.string ⟨#[]⟩), .v (.bool false), .v (.int .i64 0), .v (.string ⟨#[]⟩), .v (.slice none 0 0)]⟩]⟩ : St) := by (rcases hy with ⟨-, h⟩ | ⟨h, -⟩; exact h; cases h)
 refine KD.seqC (Q1 := fun e y => (e = .normal ∧ badTk l 0 = none ∧ y = (⟨44, [(0, .list 3 (l.flatMap cT) l.length), (2, .v (.pointer (some ⟨b2, 0, none⟩))), (3, .v (.pointer (some ⟨b3, 0, none⟩))), (4, .v (.pointer (some ⟨b4, 0, none⟩)))], [⟨b4, 33, 1, [.v (.int .i64 0)]⟩, ⟨b3, 3, 1, [.v (.int .i64 0)]⟩, ⟨b2, 32, 12, [.v (.int .i64 0), .v (.string ⟨#[]⟩), .v (.slice none 0 0), .v (.slice none 0 0), .v (.slice none 0 0), .v (.bool false), .v (.slice none 0 0), .v (.string ⟨#[]⟩), .v (.bool false), .v (.int .i64 0), .v (.string ⟨#[]⟩), .v (.slice none 0 0)]⟩]⟩ : St)) ∨ (e = .ret ∧ ∃ r S', List.Sublist S' y.S ∧ Ret Tryd.prog Tryd.f13 y r ∧ (r = dvP (parseF l) ∧ S' = []))) (fun _ _ h => h) ?_ ?_ (fun e a w y he hs h => by (rcases h with h | ⟨rfl, h⟩; exact absurd h.1 he; exact leave_ret hs h))
 ·skip
  refine sr_ ?_
  refine om_ ?_
  refine os_ ln_ ?_
  refine om_ ?_
  refine nm_ [0, 2, 3, 4, 13, 14, 15] ?_
  refine CD.block ?_
  refine lp_ (fun (i : Nat) y__ => (i ≤ l.length) ∧ (badTk l 0 = badTk (l.drop i) i) ∧ y__ = (⟨44, [(0, .list 3 (l.flatMap cT) l.length), (2, .v (.pointer (some ⟨b2, 0, none⟩))), (3, .v (.pointer (some ⟨b3, 0, none⟩))), (4, .v (.pointer (some ⟨b4, 0, none⟩))), (13, .list 3 (l.flatMap cT) l.length), (14, .v (.int .i64 l.length)), (15, .v (.int .i64 (i : Nat)))], [⟨b4, 33, 1, [.v (.int .i64 0)]⟩, ⟨b3, 3, 1, [.v (.int .i64 0)]⟩, ⟨b2, 32, 12, [.v (.int .i64 0), .v (.string ⟨#[]⟩), .v (.slice none 0 0), .v (.slice none 0 0), .v (.slice none 0 0), .v (.bool false), .v (.slice none 0 0), .v (.string ⟨#[]⟩), .v (.bool false), .v (.int .i64 0), .v (.string ⟨#[]⟩), .v (.slice none 0 0)]⟩]⟩ : St)) (fun (i : Nat) => l.length - i) 0 ⟨(Nat.zero_le _), (by rw [List.drop_zero]), rfl⟩ (Wk.asS rfl sv_ sq_) ?_
  rintro i _ ⟨hi, hq, rfl⟩
  refine sr_ ?_
  refine os_ bn_ ?_
  refine nm_ [0, 2, 3, 4, 13, 14, 15, 16] ?_
  refine CD.seq ?_
  refine CD.cond ot (fun hc1 => ?_) (fun hc1 => ?_)
  ·have hc1' := hc1
   (try simp only [V.cnd, ne_eq] at hc1')
   have hlt : i < l.length := by simp at hc1; omega
   refine CD.skip ?_
   refine CD.seq ?_
   refine CD.block ?_
   refine sr_ ?_
   refine om_ ?_
   refine os_ (ix_ 3 (h := by first | exact .l (j := i) rfl hlt | exact .r (j := i) rfl hlt)) ?_
   refine os_ (la_ [_, _, _]) ?_
   refine OD.alloc (ds := [_, _, _]) wp_ rfl rfl zeroValue24 rfl (fun b6 => ?_)
   refine om_ ?_
   refine ot_ 0 [_, _, _] sizeOf24 ?_
   refine on_ [(0, _), (2, _), (3, _), (4, _), (5, _), (6, _), (13, _), (14, _), (15, _)] [⟨b6, 24, 3, [_, _, _]⟩, ⟨b4, 33, 1, [_]⟩, ⟨b3, 3, 1, [_]⟩, ⟨b2, 32, 12, [_, _, _, _, _, _, _, _, _, _, _, _]⟩] ?_
   refine sr_ ?_
   refine os_ (lab_ 0 [_, _, _]) ?_
   refine oc_ call23 (Nm.check_vp hm l[i] (hs _ (List.getElem_mem hlt)).1) ?_
   refine om_ ?_
   refine on_ [(0, _), (2, _), (3, _), (4, _), (5, _), (7, _), (13, _), (14, _), (15, _)] [⟨b6, 24, 3, [_, _, _]⟩, ⟨b4, 33, 1, [_]⟩, ⟨b3, 3, 1, [_]⟩, ⟨b2, 32, 12, [_, _, _, _, _, _, _, _, _, _, _, _]⟩] ?_
   refine sr_ ?_
   refine om_ ?_
   refine os_ bn_ ?_
   refine nm_ [0, 2, 3, 4, 5, 7, 13, 14, 15, 23] ?_
   refine CD.cond ot (fun hc2 => ?_) (fun hc2 => ?_)
   ·have hc2' := hc2
    (try simp only [V.cnd, ne_eq] at hc2')
    have hnz : checkT l[i] ≠ 0 := by simpa using hc2
    refine sr_ ?_
    refine os_ (still_bld (pl := []) (ds := [_, _, _, _, _, _, _, _, _, _, _, _]) rfl zeroValue32 runUnderlying32 places32_Pbc trivial rfl rfl) ?_
    refine om_ ?_
    refine om_ ?_
    refine ot_ 3 [_, _, _, _, _, _, _, _, _, _, _, _] sizeOf32 ?_
    refine ot_ 2 [_] sizeOf3 ?_
    refine ot_ 1 [_] sizeOf33 ?_
    refine on_ [(0, _), (2, _), (3, _), (4, _)] [⟨b6, 24, 3, [_, _, _]⟩, ⟨b4, 33, 1, [_]⟩, ⟨b3, 3, 1, [_]⟩, ⟨b2, 32, 12, [_, _, _, _, _, _, _, _, _, _, _, _]⟩] ?_
    refine CD.ret ?_
    exact Or.inr ⟨rfl, dvP (stZ, i, checkT l[i]), [], List.nil_sublist _, (ret_three results13 (res_cells (k := 3) (ds := [_, _, _, _, _, _, _, _, _, _, _, _]) le_ lk rfl rfl isAgg32 sizeOf32 rfl rfl) (res_cell (k := 2) le_ lk rfl rfl isAgg3 rfl) (res_cell (k := 1) le_ lk rfl rfl isAgg33 rfl)).gv (gv_tup ⟨gv_agg (by repeat (first | exact trivial | exact ⟨gv_rfl, trivial⟩ | exact ⟨gv_nil, trivial⟩ | refine ⟨gv_rfl, ?_⟩ | refine ⟨gv_nil, ?_⟩)), gv_rfl, gv_rfl, trivial⟩), (by rw [parse_bad hl (bad_at hlt hq hnz)]), rfl⟩
   have hc2' := hc2
   (try simp only [V.cnd, ne_eq] at hc2')
   have hz : checkT l[i] = 0 := by simpa using hc2
   refine CD.skip ?_
   refine CD.region ?_
   refine os_ bn_ ?_
   refine om_ ?_
   refine nm_ [0, 2, 3, 4, 13, 14, 15] ?_
   refine ⟨(i + 1), _, ?_, ?_, (by omega), (bad_on hlt hq hz), rfl⟩
   ·first | omega | (simp only []; omega)
   exact Wk.asS (n := 44) rfl sv_ sq_
  have hc1' := hc1
  (try simp only [V.cnd, ne_eq] at hc1')
  have hie : l.length ≤ i := by simp at hc1; omega
  have hbad : badTk l 0 = none := by rw [hq, List.drop_of_length_le hie]; rfl
  refine CD.wk (Wk.as_ (n := 44) (l' := [(0, _), (2, _), (3, _), (4, _)]) (S' := [⟨b4, 33, 1, [_]⟩, ⟨b3, 3, 1, [_]⟩, ⟨b2, 32, 12, [_, _, _, _, _, _, _, _, _, _, _, _]⟩]) rfl rfl sl_) ?_
  refine CD.exit ?_
  exact Or.inl ⟨rfl, hbad, rfl⟩
 intro y hy
 obtain ⟨hbad, rfl⟩ : badTk l 0 = none ∧ y = (⟨44, [(0, .list 3 (l.flatMap cT) l.length), (2, .v (.pointer (some ⟨b2, 0, none⟩))), (3, .v (.pointer (some ⟨b3, 0, none⟩))), (4, .v (.pointer (some ⟨b4, 0, none⟩)))], [⟨b4, 33, 1, [.v (.int .i64 0)]⟩, ⟨b3, 3, 1, [.v (.int .i64 0)]⟩, ⟨b2, 32, 12, [.v (.int .i64 0), .v (.string ⟨#[]⟩), .v (.slice none 0 0), .v (.slice none 0 0), .v (.slice none 0 0), .v (.bool false), .v (.slice none 0 0), .v (.string ⟨#[]⟩), .v (.bool false), .v (.int .i64 0), .v (.string ⟨#[]⟩), .v (.slice none 0 0)]⟩]⟩ : St) := by (rcases hy with ⟨-, h⟩ | ⟨h, -⟩; exact h; cases h)
 have ht : ∀ t ∈ l, t.s.size ≤ maxLen ∧ (t.k = 2 → 0 ≤ t.n ∧ t.n ≤ 9223372036854775807) := fun t h => ⟨(hs t h).1, fun hk => ⟨num_pos (bad_none hbad t h) hk, (hs t h).2⟩⟩
 refine KD.defer (vs := [(.pointer (some ⟨b2, 0, none⟩)), (.pointer (some ⟨b3, 0, none⟩)), (.pointer (some ⟨b4, 0, none⟩))]) rfl rfl (show Still _ _ _ _ _ (.clo (.func 24) [.v (.pointer (some ⟨b2, 0, none⟩)), .v (.pointer (some ⟨b3, 0, none⟩)), .v (.pointer (some ⟨b4, 0, none⟩))]) from still_fn rfl ⟨ot, ot, ot, trivial⟩) rfl rfl rfl rfl ?_
 refine KD.of (Q := fun e y => (e = .ret ∧ ∃ B s, parseF l = (s, 0, 0) ∧ y = (⟨44, [(2, .v (.pointer (some ⟨b2, 0, none⟩))), (3, .v (.pointer (some ⟨b3, 0, none⟩))), (4, .v (.pointer (some ⟨b4, 0, none⟩)))], [B, ⟨b4, 33, 1, [.v (.int .i64 0)]⟩, ⟨b3, 3, 1, [.v (.int .i64 0)]⟩, ⟨b2, 32, 12, (cSt s)⟩]⟩ : St)) ∨ ∃ ch, e = .panic ch ∧ ∃ q e, ch = wrC q e ∧ parseF l = (stZ, q, e) ∧ ∃ (env : List (Nat × D)) (c4 c3 : D) (cs : List D), y = (⟨44, env, [⟨b4, 33, 1, [c4]⟩, ⟨b3, 3, 1, [c3]⟩, ⟨b2, 32, 12, cs⟩]⟩ : St) ∧ cs.length = 12 ∧ V.look 2 env = .v (.pointer (some ⟨b2, 0, none⟩)) ∧ V.look 3 env = .v (.pointer (some ⟨b3, 0, none⟩)) ∧ V.look 4 env = .v (.pointer (some ⟨b4, 0, none⟩))) ?_ ?_
 ·skip
  refine sr_ ?_
  refine om_ ?_
  refine os_ (still_bld (pl := [(0, _)]) (ds := [_, _, _]) rfl zeroValue70 runUnderlying70 places70_Pbc ⟨rfl, ot, trivial⟩ rfl rfl) ?_
  refine OD.box (ds := [_, _, _]) wp_ rfl rfl ot rfl rfl (fun b31 => ?_)
  refine om_ ?_
  refine on_ [(0, _), (2, _), (3, _), (4, _), (8, _)] [⟨b31, 70, 3, [_, _, _]⟩, ⟨b4, 33, 1, [_]⟩, ⟨b3, 3, 1, [_]⟩, ⟨b2, 32, 12, [_, _, _, _, _, _, _, _, _, _, _, _]⟩] ?_
  refine sr_ ?_
  refine om_ ?_
  refine OD.callX wp_ rfl rfl rfl call25 (statement_vx (br := b31) hl hm hw hk hty ht 0 (Nat.zero_le _) [] _ rfl none 0 0) ⟨ot, trivial⟩ (List.Perm.refl _) (fun ch hch => by obtain ⟨q, e, h1, rfl⟩ := hch; exact Or.inr ⟨_, rfl, q, e, rfl, parse_no hl hbad h1, _, _, _, _, rfl, rfl, lk, lk, lk⟩) ?_
  rintro _ _ ⟨s, p, os, ad, n, cap, hst, ⟨rfl, hok⟩, hp, rfl⟩
  unfold cSt
  refine OD.perm (S' := ⟨b31, 70, 3, [.list 3 (l.flatMap cT) l.length, .v (.int .i64 ((p : Nat) : Int)), .v (.slice ad n cap)]⟩ :: [⟨b4, 33, 1, [_]⟩, ⟨b3, 3, 1, [_]⟩, ⟨b2, 32, 12, [_, _, _, _, _, _, _, _, _, _, _, _]⟩]) (List.Perm.refl _) ?_
  refine ot_ 3 [_, _, _, _, _, _, _, _, _, _, _, _] sizeOf32 ?_
  refine on_ [(0, _), (2, _), (3, _), (4, _), (8, _)] [⟨b31, 70, 3, [_, _, _]⟩, ⟨b4, 33, 1, [_]⟩, ⟨b3, 3, 1, [_]⟩, ⟨b2, 32, 12, [_, _, _, _, _, _, _, _, _, _, _, _]⟩] ?_
  refine CD.seq ?_
  refine sr_ ?_
  refine om_ ?_
  refine os_ nc_ ?_
  refine os_ (fa_ 1) ?_
  refine os_ (lb_ 0) ?_
  refine om_ ?_
  refine os_ ln_ ?_
  refine os_ bn_ ?_
  refine nm_ [2, 3, 4, 8, 40] ?_
  refine CD.cond ot (fun hc3 => ?_) (fun hc3 => ?_)
  ·have hc3' := hc3
   (try simp only [V.cnd, ne_eq] at hc3')
   have hmo : p < l.length := by simp at hc3; omega
   refine CD.region ?_
   refine om_ ?_
   exact OD.callX wp_ rfl rfl rfl call26 (give_vx l hl p 6 ad n cap b31) ⟨ot, opd_const, trivial⟩ (List.Perm.refl _) (fun ch hch => by subst hch; exact Or.inr ⟨_, rfl, p, _, rfl, parse_more hl hbad hst hmo, _, _, _, _, rfl, rfl, lk, lk, lk⟩) (fun r S' h => h.elim)
  have hc3' := hc3
  (try simp only [V.cnd, ne_eq] at hc3')
  have hmo : ¬ p < l.length := by simp at hc3; omega
  refine CD.skip ?_
  refine sr_ ?_
  refine os_ (lab_ 3 [_, _, _, _, _, _, _, _, _, _, _, _]) ?_
  refine ot_ 3 [_, _, _, _, _, _, _, _, _, _, _, _] sizeOf32 ?_
  refine ot_ 2 [_] sizeOf3 ?_
  refine ot_ 1 [_] sizeOf33 ?_
  refine on_ [(2, _), (3, _), (4, _)] [⟨b31, 70, 3, [_, _, _]⟩, ⟨b4, 33, 1, [_]⟩, ⟨b3, 3, 1, [_]⟩, ⟨b2, 32, 12, [_, _, _, _, _, _, _, _, _, _, _, _]⟩] ?_
  refine CD.ret ?_
  exact Or.inl ⟨rfl, _, s, parse_ok hl hbad hst hmo, rfl⟩
 intro e a w h
 rcases h with ⟨y, hy, ⟨rfl, B, s, hpf, rfl⟩ | ⟨ch, rfl, q, e, rfl, hpf, env, c4, c3, cs, rfl, hcs, h2, h3, h4⟩⟩ | ⟨_, h⟩
 ·have hw := leaves_one (fn := Tryd.f13) (post := fun r S' => r = dvP (parseF l) ∧ S' = []) (S0 := []) (u := .returning) (u' := .returning) (caps := [(.pointer (some ⟨b2, 0, none⟩)), (.pointer (some ⟨b3, 0, none⟩)), (.pointer (some ⟨b4, 0, none⟩))].map D.v) (cv := [(.pointer (some ⟨b2, 0, none⟩)), (.pointer (some ⟨b3, 0, none⟩)), (.pointer (some ⟨b4, 0, none⟩))]) (Sf := []) (Rs := [B, ⟨b4, 33, 1, [.v (.int .i64 0)]⟩, ⟨b3, 3, 1, [.v (.int .i64 0)]⟩, ⟨b2, 32, 12, (cSt s)⟩]) (pc := fun S' => S' = []) hy rfl rfl rfl hy.defers (repL_flat _) call24 (List.Perm.refl _) (by intro h; cases h) rfl (cl_ret b2 b3 b4 [])
   (fun S' h => by subst h; exact ⟨_, [], List.nil_sublist _, ret_three results13 (res_cells (k := 3) (ds := [_, _, _, _, _, _, _, _, _, _, _, _]) le_ lk rfl rfl isAgg32 sizeOf32 rfl rfl) (res_cell (k := 2) le_ lk rfl rfl isAgg3 rfl) (res_cell (k := 1) le_ lk rfl rfl isAgg33 rfl), (by rw [hpf]; rfl), rfl⟩)
  exact hw
 ·have hw := leaves_one (fn := Tryd.f13) (post := fun r S' => r = dvP (parseF l) ∧ S' = []) (S0 := []) (u := .panicking (wrC q e)) (u' := .panicking [{ v := .iface 67 (.agg #[.int .i64 (q : Nat), .int .i64 e]), recovered := true }]) (caps := [(.pointer (some ⟨b2, 0, none⟩)), (.pointer (some ⟨b3, 0, none⟩)), (.pointer (some ⟨b4, 0, none⟩))].map D.v) (cv := [(.pointer (some ⟨b2, 0, none⟩)), (.pointer (some ⟨b3, 0, none⟩)), (.pointer (some ⟨b4, 0, none⟩))]) (Sf := [⟨b4, 33, 1, [c4]⟩, ⟨b3, 3, 1, [c3]⟩, ⟨b2, 32, 12, cs⟩]) (Rs := []) (pc := fun S' => ∃ B, S' = [B, ⟨b4, 33, 1, [.v (.int .i64 e)]⟩, ⟨b3, 3, 1, [.v (.int .i64 ((q : Nat) : Int))]⟩, ⟨b2, 32, 12, [.v (.int .i64 0), .v (.string ⟨#[]⟩), .v (.slice none 0 0), .v (.slice none 0 0), .v (.slice none 0 0), .v (.bool false), .v (.slice none 0 0), .v (.string ⟨#[]⟩), .v (.bool false), .v (.int .i64 0), .v (.string ⟨#[]⟩), .v (.slice none 0 0)]⟩]) hy rfl rfl rfl hy.defers (repL_flat _) call24 (List.Perm.refl _) (by intro h; cases h) rfl (cl_pan0 b2 b3 b4 q e c4 c3 cs hcs)
   (fun S' h => by obtain ⟨B, rfl⟩ := h; exact ⟨dvP (stZ, q, e), [], List.nil_sublist _, (ret_three results13 (res_cells (k := 3) (ds := [_, _, _, _, _, _, _, _, _, _, _, _]) le_ h2 rfl rfl isAgg32 sizeOf32 rfl rfl) (res_cell (k := 2) le_ h3 rfl rfl isAgg3 rfl) (res_cell (k := 1) le_ h4 rfl rfl isAgg33 rfl)).gv (gv_tup ⟨gv_agg (by repeat (first | exact trivial | exact ⟨gv_rfl, trivial⟩ | exact ⟨gv_nil, trivial⟩ | refine ⟨gv_rfl, ?_⟩ | refine ⟨gv_nil, ?_⟩)), gv_rfl, gv_rfl, trivial⟩), (by rw [hpf]), rfl⟩)
  exact hw
 exact h.elim


end Go.Proofs.YtjgekbmahhhokaaDoor.Pa

namespace Go.Proofs.YtjgekbmahhhokaaDoor.Pa
open Go.Proofs.Tryd
open Go.RowKit V Pk Go.Proofs.YtjgekbmahhhokaaDoor.Vl Go.Proofs.YtjgekbmahhhokaaDoor.Nm
abbrev GT (t : Tk) : Prop := checkT t = 0 ∧ t.s.size ≤ maxLen ∧ t.n ≤ 9223372036854775807
def GTs (l : List Tk) : Prop := ∀ t ∈ l, GT t
theorem gts_nil : GTs [] := fun _ h => by cases h
theorem gts_cons {a : Tk} {l : List Tk} (h : GT a) (h2 : GTs l) : GTs (a :: l) := fun t ht => by
 rcases List.mem_cons.1 ht with rfl | ht
 ·exact h
 exact h2 t ht
theorem gts_app {a b : List Tk} (h : GTs a) (h2 : GTs b) : GTs (a ++ b) := fun t ht => by
 rcases List.mem_append.1 ht with ht | ht
 ·exact h t ht
 exact h2 t ht
theorem gt_word {s : ByteArray} (h : nameF s = 0) : GT (wordT s) := by
 obtain ⟨h1, h2⟩ := name_ok h
 refine ⟨?_, Nat.le_trans h2 (by decide), by show (0 : Int) ≤ _; decide⟩
 rw [wordT, check_word, if_pos h1]
theorem gt_num {n : Int} (h : 0 ≤ n) (h2 : n ≤ 9223372036854775807) : GT ⟨2, ⟨#[]⟩, n⟩ := by
 refine ⟨?_, Nat.zero_le _, h2⟩
 unfold checkT; dsimp only
 rw [if_neg (by decide), if_pos rfl, if_neg (by omega), if_pos (show (⟨#[]⟩ : ByteArray).size = 0 from rfl)]
theorem gts_val {v : Vl} (h : litF v = 0) (h1 : -9223372036854775808 ≤ v.n) (h2 : v.n ≤ 9223372036854775807) : GTs (showV v) := by
 have ho := lit_ok h h1 h2
 unfold showV
 split
 ·exact gts_cons (by decide +kernel) gts_nil
 split
 ·split
  ·exact gts_cons (by decide +kernel) gts_nil
  exact gts_cons (by decide +kernel) gts_nil
 split
 ·refine gts_cons ⟨?_, ?_, by show (0 : Int) ≤ _; decide⟩ gts_nil
  ·unfold checkT; dsimp only; rw [if_neg (by decide), if_neg (by decide), if_pos rfl, if_pos rfl]
  show v.s.size ≤ maxLen
  have h20 : v.s.size ≤ 20 := by
   unfold litF checkV at h
   split at h
   ·cases h
   repeat' split at h
   all_goals first | (exfalso; omega) | omega
  exact Nat.le_trans h20 (show 20 ≤ maxLen by decide)
 split
 ·exact gts_cons (by decide +kernel) (gts_cons (gt_num (by omega) (by have := ho.2.1; omega)) gts_nil)
 exact gts_cons (gt_num (by omega) h2) gts_nil
def InR (l : List OpL) : Prop := ∀ o ∈ l, -9223372036854775808 ≤ o.v.n ∧ o.v.n ≤ 9223372036854775807
theorem inR_l {a b : List OpL} (h : InR (a ++ b)) : InR a := fun o ho => h o (List.mem_append_left _ ho)
theorem inR_r {a b : List OpL} (h : InR (a ++ b)) : InR b := fun o ho => h o (List.mem_append_right _ ho)
theorem gt_bet {k : Int} (h : k = 3 ∨ k = 4 ∨ 6 ≤ k ∧ k ≤ 10) : GT (betT k) := by
 have h' : k = 3 ∨ k = 4 ∨ k = 6 ∨ k = 7 ∨ k = 8 ∨ k = 9 ∨ k = 10 := by omega
 rcases h' with rfl | rfl | rfl | rfl | rfl | rfl | rfl <;> decide +kernel
theorem gt_open : GT (markT ⟨#[40]⟩) := by decide +kernel
theorem gt_close : GT (markT ⟨#[41]⟩) := by decide +kernel
theorem gt_comma : GT (markT ⟨#[44]⟩) := by decide +kernel
theorem gts_tree : ∀ e : Ex, e.good → InR e.opl → GTs e.tkl
 | .lit v, h, hr => by
  have := hr ⟨1, v, ⟨#[]⟩⟩ List.mem_cons_self
  exact gts_val h this.1 this.2
 | .col s, h, _ => gts_cons (gt_word h) gts_nil
 | .not e, h, hr => by
  have ih := gts_tree e h (inR_l hr)
  show GTs ([[markT _, wordT _], e.tkl, [markT _]].flatten)
  simp only [List.flatten_cons, List.flatten_nil, List.append_nil]
  exact gts_app (gts_cons gt_open (gts_cons (by decide +kernel) gts_nil)) (gts_app ih (gts_cons gt_close gts_nil))
 | .isn e, h, hr => by
  have ih := gts_tree e h (inR_l hr)
  show GTs ([[markT _], e.tkl, [wordT _, wordT _], [markT _]].flatten)
  simp only [List.flatten_cons, List.flatten_nil, List.append_nil]
  exact gts_app (gts_cons gt_open gts_nil) (gts_app ih (gts_app (gts_cons (by decide +kernel) (gts_cons (by decide +kernel) gts_nil)) (gts_cons gt_close gts_nil)))
 | .bin k a b, h, hr => by
  have ia := gts_tree a h.2.1 (inR_l (inR_l hr))
  have ib := gts_tree b h.2.2 (inR_r (inR_l hr))
  show GTs ([[markT _], a.tkl, [betT k], b.tkl, [markT _]].flatten)
  simp only [List.flatten_cons, List.flatten_nil, List.append_nil]
  exact gts_app (gts_cons gt_open gts_nil) (gts_app ia (gts_app (gts_cons (gt_bet h.1) gts_nil) (gts_app ib (gts_cons gt_close gts_nil))))
theorem gts_ops {l : List OpL} (h : exprL 0 l = 0) (hr : InR l) : GTs (showO l) := by
 obtain ⟨e, h1, h2, h3⟩ := tree_of h
 rw [h3]; exact gts_tree e h1 (h2 ▸ hr)
theorem gts_where {l : List OpL} (h : l.length = 0 ∨ exprL 0 l = 0) (hr : InR l) : GTs (showW l) := by
 unfold showW
 split
 ·exact gts_nil
 rename_i h0
 exact gts_app (gts_cons (by decide +kernel) gts_nil) (gts_ops (h.resolve_left h0) hr)
theorem gts_sep : ∀ (l : List (List Tk)), (∀ x ∈ l, GTs x) → GTs (sepT l)
 | [], _ => gts_nil
 | [t], h => h t List.mem_cons_self
 | t :: u :: r, h => gts_app (h t List.mem_cons_self) (gts_cons gt_comma (gts_sep (u :: r) fun x hx => h x (List.mem_cons_of_mem _ hx)))
theorem gts_list {l : List (List Tk)} (h : ∀ x ∈ l, GTs x) : GTs (listL l) := by
 rw [list_sep]; exact gts_cons gt_open (gts_app (gts_sep l h) (gts_cons gt_close gts_nil))
theorem gts_show {s : StL} (hf : FinS s) (h1 : 1 ≤ s.kind) (h9 : s.kind ≤ 9) (hl : s.limit ≤ 9223372036854775807) (hc : checkS s = 0) : GTs (showS s) := by
 obtain ⟨he, hb, ht⟩ := err_0 hc
 have hs := sh_of hf h1 h9 hc
 have hw : InR s.wher := fun o ho => (hf.w o ho).2
 have hto : InR s.to := fun o ho => (hf.x o ho).2
 unfold showS
 split
 ·rename_i hk
  have hn := ht (by omega)
  unfold errS at he; rw [if_pos hk] at he
  refine gts_app (gts_cons (by decide +kernel) (gts_cons (by decide +kernel) (gts_cons (gt_word hn) gts_nil))) (gts_list fun x hx => ?_)
  obtain ⟨c, hcm, rfl⟩ := List.mem_map.1 hx
  obtain ⟨c1, c2, c3⟩ := (cols_good he).2 c hcm
  refine gts_cons (gt_word c1) (gts_cons ?_ gts_nil)
  have hk3 : c.k = 1 ∨ c.k = 2 ∨ c.k = 3 := by omega
  rcases hk3 with e | e | e <;> rw [e] <;> decide +kernel
 split
 ·exact gts_cons (by decide +kernel) (gts_cons (by decide +kernel) (gts_cons (gt_word (ht (by omega))) gts_nil))
 split
 ·rename_i hk1 hk2 hk
  unfold errS at he; rw [if_neg (by omega), if_pos hk] at he
  unfold rowF at he
  split at he
  ·cases he
  refine gts_app (gts_cons (by decide +kernel) (gts_cons (by decide +kernel) (gts_cons (gt_word (ht (by omega))) (gts_cons (by decide +kernel) gts_nil)))) (gts_list fun x hx => ?_)
  obtain ⟨v, hv, rfl⟩ := List.mem_map.1 hx
  exact gts_val (first_0 he v hv) (hf.r v hv).1 (hf.r v hv).2
 split
 ·rename_i hk1 hk2 hk3 hk
  have hcf : pickF s = 0 := by unfold errS at he; rw [if_neg (by omega), if_neg (by omega), if_pos hk] at he; exact he
  unfold pickF at hcf
  split at hcf
  ·cases hcf
  split at hcf
  ·cases hcf
  split at hcf
  ·cases hcf
  split at hcf
  ·exact absurd hcf (by assumption)
  split at hcf
  ·exact absurd hcf (by assumption)
  rename_i n6 lim cn nn ww
  have hn0 : ∀ x ∈ s.names, nameF x = 0 := first_0 (by omega)
  have hord : ¬ eqS s.order ⟨#[]⟩ = true → nameF s.order = 0 := fun h => by rw [if_neg h] at hcf; exact hcf
  unfold showP
  refine gts_app (gts_app (gts_app (gts_app (gts_app (gts_cons (by decide +kernel) gts_nil) ?_) (gts_cons (by decide +kernel) (gts_cons (gt_word (ht (by omega))) gts_nil))) (gts_where (hs.w (.inl hk)) hw)) ?_) ?_
  ·unfold headT
   split
   ·exact gts_cons (by decide +kernel) (gts_cons (by decide +kernel) (gts_cons (by decide +kernel) (gts_cons (by decide +kernel) gts_nil)))
   split
   ·exact gts_cons (by decide +kernel) gts_nil
   rw [preN_sep _ _ (Nat.le_refl _), List.take_length]
   refine gts_sep _ fun x hx => ?_
   obtain ⟨n, hn, rfl⟩ := List.mem_map.1 hx
   exact gts_cons (gt_word (hn0 n hn)) gts_nil
  ·unfold ordT
   split
   ·exact gts_nil
   rename_i ho
   refine gts_app (gts_cons (by decide +kernel) (gts_cons (by decide +kernel) (gts_cons (gt_word (hord ho)) gts_nil))) ?_
   split
   ·exact gts_cons (by decide +kernel) gts_nil
   exact gts_nil
  unfold limT
  split
  ·exact gts_cons (by decide +kernel) (gts_cons (gt_num (by omega) hl) gts_nil)
  exact gts_nil
 split
 ·rename_i hk1 hk2 hk3 hk4 hk
  have hns : nameF s.set = 0 := by
   unfold errS at he; rw [if_neg (by omega), if_neg (by omega), if_neg (by omega), if_pos hk] at he
   split at he
   ·assumption
   exact he
  simp only [List.flatten_cons, List.flatten_nil, List.append_nil]
  exact gts_app (gts_cons (by decide +kernel) (gts_cons (gt_word (ht (by omega))) (gts_cons (by decide +kernel) (gts_cons (gt_word hns) gts_nil)))) (gts_app (gts_cons (by decide +kernel) gts_nil) (gts_app (gts_ops (hs.t hk) hto) (gts_where (hs.w (.inr (.inl hk))) hw)))
 split
 ·rename_i hk
  exact gts_app (gts_cons (by decide +kernel) (gts_cons (by decide +kernel) (gts_cons (gt_word (ht (by omega))) gts_nil))) (gts_where (hs.w (.inr (.inr hk))) hw)
 have hk : s.kind = 7 ∨ s.kind = 8 ∨ s.kind = 9 := by omega
 rcases hk with hk | hk | hk <;> rw [hk] <;> exact gts_cons (by decide +kernel) gts_nil
theorem bad_gts : ∀ {l : List Tk} {i : Nat}, GTs l → badTk l i = none
 | [], _, _ => rfl
 | a :: r, i, h => by
  unfold badTk
  rw [if_pos (h a List.mem_cons_self).1]
  exact bad_gts fun t ht => h t (List.mem_cons_of_mem _ ht)
theorem gts_hs {l : List Tk} (h : GTs l) : ∀ t ∈ l, t.s.size ≤ maxLen ∧ t.n ≤ 9223372036854775807 := fun t ht => (h t ht).2
theorem show_pos {s : StL} : 0 < (showS s).length := by
 unfold showS showP
 repeat' split
 all_goals simp

end Go.Proofs.YtjgekbmahhhokaaDoor.Pa

namespace Go.Proofs.YtjgekbmahhhokaaDoor.Pa
open Go.Proofs.Tryd
open Go.RowKit V Pk Go.Proofs.YtjgekbmahhhokaaDoor.Vl Go.Proofs.YtjgekbmahhhokaaDoor.Nm
abbrev TypesTab (w : World) : Prop := Tab.TabAt w 1 typesC
abbrev CmpTab (w : World) : Prop := Tab.TabAt w 5 cmpC
def typesB : List (List UInt8) := [[], [66, 79, 79, 76], [73, 78, 84], [84, 69, 88, 84]]
def cmpB : List (List UInt8 × Int × Bool × Bool) := [([61], 6, false, false), ([60, 62], 6, false, true), ([60], 7, false, false), ([62], 7, true, false), ([62, 61], 7, false, true), ([60, 61], 7, true, true)]
def TGP : List (Nat × List Value) := [(0, marksC), (2, wordsC), (1, typesC), (5, cmpC)]
theorem tp1 : (0, marksC) ∈ TGP := List.mem_cons_self
theorem tp2 : (2, wordsC) ∈ TGP := List.mem_cons_of_mem _ List.mem_cons_self
theorem tp3 : (1, typesC) ∈ TGP := List.mem_cons_of_mem _ (List.mem_cons_of_mem _ List.mem_cons_self)
theorem tp4 : (5, cmpC) ∈ TGP := List.mem_cons_of_mem _ (List.mem_cons_of_mem _ (List.mem_cons_of_mem _ List.mem_cons_self))
theorem tgpx {w : World} (h1 : MarksTab w) (h2 : WordsTab w) (h3 : TypesTab w) (h4 : CmpTab w) : ∀ g ∈ TGP, g.2 ≠ [] ∧ TabX w g.1 g.2 := fun g hg => by
 simp only [TGP, List.mem_cons, List.not_mem_nil, or_false] at hg
 rcases hg with rfl | rfl | rfl | rfl
 ·exact ⟨by decide, .of h1 rfl⟩
 ·exact ⟨by decide, .of h2 rfl⟩
 ·exact ⟨by decide, .of h3 rfl⟩
 exact ⟨by decide, .of h4 rfl⟩

end Go.Proofs.YtjgekbmahhhokaaDoor.Pa

namespace Go.Proofs.YtjgekbmahhhokaaDoor.Pa
open Go.Proofs.Tryd
open Go.RowKit V Pk Go.Proofs.YtjgekbmahhhokaaDoor.Vl Go.Proofs.YtjgekbmahhhokaaDoor.Nm
section
variable {H : Type} {enc : TypeId × Value → H} {P : Program} {w : World} {base : Nat} {sp : Nat → Bool} {held : Bool}
theorem rd_struct8 {fuel : Nat} {t : TypeId} {f0 f1 f2 f3 f4 f5 f6 f7 : Field} {α0 α1 α2 α3 α4 α5 α6 α7 : Type} {g0 : α0 → List D} {k0 : α0 → Prop} {g1 : α1 → List D} {k1 : α1 → Prop} {g2 : α2 → List D} {k2 : α2 → Prop} {g3 : α3 → List D} {k3 : α3 → Prop} {g4 : α4 → List D} {k4 : α4 → Prop} {g5 : α5 → List D} {k5 : α5 → Prop} {g6 : α6 → List D} {k6 : α6 → Prop} {g7 : α7 → List D} {k7 : α7 → Prop} {n0 n1 n2 n3 n4 n5 n6 n7 : Nat}
  (ht : P.underlying t = some (.struct #[f0, f1, f2, f3, f4, f5, f6, f7])) (hc : P.cellsOf t = n0 + n1 + n2 + n3 + n4 + n5 + n6 + n7) (o0 : f0.offset = 0) (c0 : P.cellsOf f0.type = n0) (o1 : f1.offset = n0) (c1 : P.cellsOf f1.type = n1) (o2 : f2.offset = n0 + n1) (c2 : P.cellsOf f2.type = n2) (o3 : f3.offset = n0 + n1 + n2) (c3 : P.cellsOf f3.type = n3) (o4 : f4.offset = n0 + n1 + n2 + n3) (c4 : P.cellsOf f4.type = n4) (o5 : f5.offset = n0 + n1 + n2 + n3 + n4) (c5 : P.cellsOf f5.type = n5) (o6 : f6.offset = n0 + n1 + n2 + n3 + n4 + n5) (c6 : P.cellsOf f6.type = n6) (o7 : f7.offset = n0 + n1 + n2 + n3 + n4 + n5 + n6) (c7 : P.cellsOf f7.type = n7)
  (r0 : ∀ n, n + 1 = fuel → RdsF n enc P w base sp held f0.type g0 k0) (r1 : ∀ n, n + 1 = fuel → RdsF n enc P w base sp held f1.type g1 k1) (r2 : ∀ n, n + 1 = fuel → RdsF n enc P w base sp held f2.type g2 k2) (r3 : ∀ n, n + 1 = fuel → RdsF n enc P w base sp held f3.type g3 k3) (r4 : ∀ n, n + 1 = fuel → RdsF n enc P w base sp held f4.type g4 k4) (r5 : ∀ n, n + 1 = fuel → RdsF n enc P w base sp held f5.type g5 k5) (r6 : ∀ n, n + 1 = fuel → RdsF n enc P w base sp held f6.type g6 k6) (r7 : ∀ n, n + 1 = fuel → RdsF n enc P w base sp held f7.type g7 k7) :
  RdsF fuel enc P w base sp held t (fun a : α0 × α1 × α2 × α3 × α4 × α5 × α6 × α7 => (g0 (a.1) ++ (g1 (a.2.1) ++ (g2 (a.2.2.1) ++ (g3 (a.2.2.2.1) ++ (g4 (a.2.2.2.2.1) ++ (g5 (a.2.2.2.2.2.1) ++ (g6 (a.2.2.2.2.2.2.1) ++ g7 (a.2.2.2.2.2.2.2))))))))) (fun a => k0 (a.1) ∧ k1 (a.2.1) ∧ k2 (a.2.2.1) ∧ k3 (a.2.2.2.1) ∧ k4 (a.2.2.2.2.1) ∧ k5 (a.2.2.2.2.2.1) ∧ k6 (a.2.2.2.2.2.2.1) ∧ k7 (a.2.2.2.2.2.2.2)) := fun cs x h => by
 obtain ⟨xs, n, hn, _, hl, hxl, hf⟩ := DataW.trod_struct ht h
 have e0 := hf 0 f0 rfl
 have e1 := hf 1 f1 rfl
 have e2 := hf 2 f2 rfl
 have e3 := hf 3 f3 rfl
 have e4 := hf 4 f4 rfl
 have e5 := hf 5 f5 rfl
 have e6 := hf 6 f6 rfl
 have e7 := hf 7 f7 rfl
 rw [o0, c0, List.drop_zero] at e0
 rw [o1, c1] at e1
 rw [o2, c2] at e2
 rw [o3, c3] at e3
 rw [o4, c4] at e4
 rw [o5, c5] at e5
 rw [o6, c6] at e6
 rw [o7, c7] at e7
 have hx8 : xs.length = 8 := hxl
 rw [List.getElem?_eq_getElem (by omega)] at e0 e1 e2 e3 e4 e5 e6 e7
 obtain ⟨a0, p0, q0⟩ := r0 n hn.symm _ _ e0
 obtain ⟨a1, p1, q1⟩ := r1 n hn.symm _ _ e1
 obtain ⟨a2, p2, q2⟩ := r2 n hn.symm _ _ e2
 obtain ⟨a3, p3, q3⟩ := r3 n hn.symm _ _ e3
 obtain ⟨a4, p4, q4⟩ := r4 n hn.symm _ _ e4
 obtain ⟨a5, p5, q5⟩ := r5 n hn.symm _ _ e5
 obtain ⟨a6, p6, q6⟩ := r6 n hn.symm _ _ e6
 obtain ⟨a7, p7, q7⟩ := r7 n hn.symm _ _ e7
 refine ⟨(a0, a1, a2, a3, a4, a5, a6, a7), ?_, q0, q1, q2, q3, q4, q5, q6, q7⟩
 have hcs : cs = (cs.take n0 ++ ((cs.drop (n0)).take n1 ++ ((cs.drop (n0 + n1)).take n2 ++ ((cs.drop (n0 + n1 + n2)).take n3 ++ ((cs.drop (n0 + n1 + n2 + n3)).take n4 ++ ((cs.drop (n0 + n1 + n2 + n3 + n4)).take n5 ++ ((cs.drop (n0 + n1 + n2 + n3 + n4 + n5)).take n6 ++ ((cs.drop (n0 + n1 + n2 + n3 + n4 + n5 + n6)).take n7)))))))) := by
  rw [List.take_of_length_le (l := List.drop (n0 + n1 + n2 + n3 + n4 + n5 + n6) cs) (by rw [List.length_drop]; omega)]
  have d2 : cs.drop (n0 + n1) = (cs.drop (n0)).drop n1 := by rw [List.drop_drop]
  have d3 : cs.drop (n0 + n1 + n2) = (cs.drop (n0 + n1)).drop n2 := by rw [List.drop_drop]
  have d4 : cs.drop (n0 + n1 + n2 + n3) = (cs.drop (n0 + n1 + n2)).drop n3 := by rw [List.drop_drop]
  have d5 : cs.drop (n0 + n1 + n2 + n3 + n4) = (cs.drop (n0 + n1 + n2 + n3)).drop n4 := by rw [List.drop_drop]
  have d6 : cs.drop (n0 + n1 + n2 + n3 + n4 + n5) = (cs.drop (n0 + n1 + n2 + n3 + n4)).drop n5 := by rw [List.drop_drop]
  have d7 : cs.drop (n0 + n1 + n2 + n3 + n4 + n5 + n6) = (cs.drop (n0 + n1 + n2 + n3 + n4 + n5)).drop n6 := by rw [List.drop_drop]
  rw [d7, List.take_append_drop, d6, List.take_append_drop, d5, List.take_append_drop, d4, List.take_append_drop, d3, List.take_append_drop, d2, List.take_append_drop, List.take_append_drop]
 rw [hcs]
 exact (p0.append (p1.append (p2.append (p3.append (p4.append (p5.append (p6.append p7)))))))
end

structure Ph where
 k : Int
 t : Int
 a : Int
 b : Int
 row : List Vl
 to : Tw
 wh : Tw
 bare : Bool
def Ph.cs (p : Ph) : List D := [.v (.int .i64 p.k)] ++ ([.v (.int .i64 p.t)] ++ ([.v (.int .i64 p.a)] ++ ([.v (.int .i64 p.b)] ++ ([.list 3 (p.row.flatMap cV) p.row.length] ++ (p.to.cs ++ (p.wh.cs ++ [.v (.bool p.bare)]))))))
structure Ph.Ok (p : Ph) : Prop where
 k : -9223372036854775808 ≤ p.k ∧ p.k ≤ 9223372036854775807
 t : -9223372036854775808 ≤ p.t ∧ p.t ≤ 9223372036854775807
 a : -9223372036854775808 ≤ p.a ∧ p.a ≤ 9223372036854775807
 b : -9223372036854775808 ≤ p.b ∧ p.b ≤ 9223372036854775807
 row : ∀ v ∈ p.row, v.s.size ≤ maxLen
 to : p.to.Ok
 wh : p.wh.Ok
theorem rd_rawV {H : Type} {enc : TypeId × Value → H} {w : World} {base : Nat} {sp : Nat → Bool} {held : Bool} : Rds enc Tryd.prog w base sp held 57 cV (fun v : Vl => v.s.size ≤ maxLen) :=
 (rd_struct3 (n0 := 1) (n1 := 1) (n2 := 1) underlying57 kr_ rfl rfl rfl kr_ kr_ kr_ (rd_int underlying3) (rd_int underlying3) (rd_string underlying9)).map (fun a => (⟨a.1, a.2.1, a.2.2⟩ : Vl)) (fun _ => rfl) (fun _ h => h.2.2)
theorem rd_phraseF {H : Type} {enc : TypeId × Value → H} {w : World} {base : Nat} {sp : Nat → Bool} {held : Bool} (n : Nat) : RdsF n enc Tryd.prog w base sp held 47 Ph.cs Ph.Ok := fun cs x h => by
 obtain ⟨⟨a0, a1, a2, a3, a4, a5, a6, a7⟩, h1, q0, q1, q2, q3, q4, q5, q6, _⟩ := rd_struct8 (fuel := n) (n0 := 1) (n1 := 1) (n2 := 1) (n3 := 1) (n4 := 1) (n5 := 4) (n6 := 4) (n7 := 1) underlying47 kr_ rfl kr_ rfl kr_ rfl kr_ rfl kr_ rfl kr_ rfl kr_ rfl kr_ rfl kr_
  (fun q _ => (rd_int underlying3).at q) (fun q _ => (rd_int underlying3).at q) (fun q _ => (rd_int underlying3).at q) (fun q _ => (rd_int underlying3).at q) (fun q _ => rd_sliceF (sz := 3) underlying42 kr_ (by decide) (fun z _ => rd_rawV.at z) cV_len) (fun q _ => rd_twigF q) (fun q _ => rd_twigF q) (fun q _ => (rd_bool underlying4).at q) cs x h
 exact ⟨⟨a0, a1, a2, a3, a4, a5, a6, a7⟩, h1, ⟨q0, q1, q2, q3, q4.1, q5, q6⟩⟩
theorem rd_phrase {H : Type} {enc : TypeId × Value → H} {w : World} {base b' : Nat} {sp : Nat → Bool} {held : Bool} {v : Value} {d : DataW H} {p : List MemPlace} (hval : Value.okWide Tryd.prog w .any b' 47 v) (h : DataW.Trod enc Tryd.prog w base sp held 47 v d p) :
  ∃ t : Ph, Rep w (fun _ => False) (.agg t.cs) v ∧ t.Ok ∧ True := rd_arg underlying47 rd_phraseF hval h

end Go.Proofs.YtjgekbmahhhokaaDoor.Pa

namespace Go.Proofs.YtjgekbmahhhokaaDoor.Pa
open Go.Proofs.Tryd
open Go.RowKit V Pk Go.Proofs.YtjgekbmahhhokaaDoor.Vl Go.Proofs.YtjgekbmahhhokaaDoor.Nm
variable {G : List (Nat × List Value)}
theorem show_err (s : StL) : (ShowF s).2 = CheckF s := by
 unfold ShowF; split
 ·rfl
 have : CheckF s = 0 := by omega
 rw [this]
theorem good_err {s : StL} (g1 : 1 ≤ s.kind) (g6 : s.kind ≤ 6) (gc : checkS s = 0) : (CheckF s = 10 ∧ 100 < (showS s).length) ∨ (CheckF s = 0 ∧ (showS s).length ≤ 100) := by
 unfold CheckF
 rw [if_neg (by omega), if_neg (by omega)]
 split
 ·exact .inl ⟨rfl, by omega⟩
 exact .inr ⟨rfl, by omega⟩
theorem show_ok {s : StL} (h : CheckF s = 0) : (ShowF s).1 = showS s := by unfold ShowF; rw [if_neg (by omega)]

end Go.Proofs.YtjgekbmahhhokaaDoor.Pa

namespace Go.Proofs.YtjgekbmahhhokaaDoor.Pa
open Go.Proofs.Tryd
open Go.RowKit V Pk Go.Proofs.YtjgekbmahhhokaaDoor.Vl Go.Proofs.YtjgekbmahhhokaaDoor.Nm
variable {l : List Tk}
def W {α : Type} (l : List Tk) (r : Rs α) (Q : α → Nat → List OpL → Prop) : Prop := match r with
 | .ok v p ops => p ≤ l.length ∧ Q v p ops
 | .no p e => p ≤ l.length ∧ e ≠ 0
 | .stuck => True
theorem W.bind {α β : Type} {r : Rs α} {f : α → Nat → List OpL → Rs β} {Q' : α → Nat → List OpL → Prop} {Q : β → Nat → List OpL → Prop} (h : W l r Q') (k : ∀ v p ops, p ≤ l.length → Q' v p ops → W l (f v p ops) Q) : W l (r.bind f) Q := by
 cases r with
 | ok v p ops => exact k v p ops h.1 h.2
 | no p e => exact h
 | stuck => trivial
theorem W.mono {α : Type} {r : Rs α} {Q' Q : α → Nat → List OpL → Prop} (h : W l r Q') (k : ∀ v p ops, Q' v p ops → Q v p ops) : W l r Q := by
 cases r with
 | ok v p ops => exact ⟨h.1, k _ _ _ h.2⟩
 | no p e => exact h
 | stuck => trivial
theorem w_gv {α : Type} {p : Nat} {e : Int} {Q : α → Nat → List OpL → Prop} (hp : p ≤ l.length) (he : e ≠ 0) : W l (gv l p e : Rs α) Q := by
 unfold gv; refine ⟨hp, ?_⟩
 split
 ·decide
 exact he
theorem w_must : ∀ (ws : List ByteArray) {p : Nat} {ops : List OpL}, p ≤ l.length → W l (mustP l ws p ops) fun _ _ os => os = ops
 | [], p, ops, hp => ⟨hp, rfl⟩
 | s :: r, p, ops, hp => by
  unfold mustP; split
  ·exact w_must r (isQ_lt (by assumption))
  exact w_gv hp (by decide)
theorem w_mark {s : ByteArray} {p : Nat} {ops : List OpL} (hp : p ≤ l.length) : W l (markP l s p ops) fun _ _ os => os = ops := by
 unfold markP; split
 ·exact ⟨isQ_lt (by assumption), rfl⟩
 exact w_gv hp (by decide)
theorem w_name {p : Nat} {ops : List OpL} (hp : p ≤ l.length) : W l (nameP l p ops) fun s _ os => os = ops ∧ nameF s = 0 := by
 unfold nameP
 split
 ·split
  ·exact w_gv hp (by decide)
  split
  ·exact w_gv hp (by assumption)
  rename_i h _ h2
  exact ⟨h, rfl, by omega⟩
 exact w_gv hp (by decide)
def TG (l : List Tk) : Prop := ∀ t ∈ l, checkT t = 0 ∧ t.s.size ≤ maxLen ∧ t.n ≤ 9223372036854775807
theorem lit_int {x : Int} (h : x ≠ -9223372036854775808) : litF ⟨2, x, ⟨#[]⟩⟩ = 0 := by
 unfold litF; rw [if_neg (by intro h2; exact h h2.2)]; kernel_rfl
def LitOk (v : Vl) : Prop := litF v = 0 ∧ -9223372036854775807 ≤ v.n ∧ v.n ≤ 9223372036854775807
theorem lit_nul : LitOk noVl := ⟨by decide +kernel, by decide, by decide⟩
theorem at_mem {p : Nat} (h : p < l.length) : l.getD p ⟨0, ⟨#[]⟩, 0⟩ = l[p] := by rw [List.getD_eq_getElem?_getD, List.getElem?_eq_getElem h]; rfl
theorem w_lit (ht : TG l) {p : Nat} {ops : List OpL} (hp : p ≤ l.length) : W l (litP l p ops) fun v _ os => os = ops ∧ (v.2 = true → LitOk v.1) := by
 unfold litP
 split
 ·exact ⟨isQ_lt (by assumption), rfl, fun _ => lit_nul⟩
 split
 ·exact ⟨isQ_lt (by assumption), rfl, fun _ => ⟨by decide +kernel, by decide, by decide⟩⟩
 split
 ·exact ⟨isQ_lt (by assumption), rfl, fun _ => ⟨by decide +kernel, by decide, by decide⟩⟩
 split
 ·rename_i h
  split
  ·exact w_gv hp (by decide)
  rename_i h20
  exact ⟨h.1, rfl, fun _ => ⟨lit_txt (by omega), by show -9223372036854775807 ≤ (0 : Int); decide, by show (0 : Int) ≤ 9223372036854775807; decide⟩⟩
 split
 ·rename_i hq
  split
  ·rename_i h
   have hk : (l[p + 1]'h.1).k = 2 := by rw [← at_mem h.1]; exact h.2
   have hm := ht _ (List.getElem_mem h.1)
   have h0 := num_pos hm.1 hk
   refine ⟨h.1, rfl, fun _ => ⟨lit_int (by have := hm.2.2; omega), ?_, ?_⟩⟩
   ·show -9223372036854775807 ≤ -(l[p + 1]'h.1).n; have := hm.2.2; omega
   show -(l[p + 1]'h.1).n ≤ 9223372036854775807; omega
  exact w_gv (isQ_lt hq) (by decide)
 split
 ·rename_i h
  have hk : (l[p]'h.1).k = 2 := by rw [← at_mem h.1]; exact h.2
  have hm := ht _ (List.getElem_mem h.1)
  have h0 := num_pos hm.1 hk
  refine ⟨h.1, rfl, fun _ => ⟨lit_int (by omega), ?_, ?_⟩⟩
  ·show -9223372036854775807 ≤ (l[p]'h.1).n; omega
  exact hm.2.2
 exact ⟨hp, rfl, fun h => absurd h Bool.false_ne_true⟩
def GO (o : OpL) : Prop := o.nm.size ≤ maxLen ∧ -9223372036854775808 ≤ o.v.n ∧ o.v.n ≤ 9223372036854775807
def GOs (l : List OpL) : Prop := ∀ o ∈ l, GO o
theorem gos_nil : GOs [] := fun _ h => by cases h
theorem gos_app {a b : List OpL} (h : GOs a) (k : GOs b) : GOs (a ++ b) := fun o ho => (List.mem_append.1 ho).elim (h o) (k o)
theorem gos_one {o : OpL} (h : GO o) : GOs [o] := fun x hx => by rw [List.mem_singleton.1 hx]; exact h
theorem go_op (k : Int) : GO (opN k) := ⟨Nat.zero_le _, by show (-9223372036854775808 : Int) ≤ 0; decide, by show (0 : Int) ≤ 9223372036854775807; decide⟩
def E0 (a : List OpL) : Prop := ∀ (h : Int) (t : List OpL), 0 ≤ h → exprL h (a ++ t) = exprL (h + 1) t
def E1 (a : List OpL) : Prop := ∀ (h : Int) (t : List OpL), 1 ≤ h → exprL h (a ++ t) = exprL h t
theorem e1_nil : E1 [] := fun _ _ _ => rfl
theorem e1_app {a b : List OpL} (h : E1 a) (k : E1 b) : E1 (a ++ b) := fun n t hn => by rw [List.append_assoc, h n _ hn, k n t hn]
theorem e0_app {a b : List OpL} (h : E0 a) (k : E1 b) : E0 (a ++ b) := fun n t hn => by rw [List.append_assoc, h n _ hn, k _ t (by omega)]
theorem err_op {k h : Int} (hk : k = 3 ∨ k = 4 ∨ 5 ≤ k ∧ k ≤ 11) (hh : popsF k ≤ h) : opErr h (opN k) = 0 := by
 have h1 : zeroV (opN k).v = true := by show zeroV noVl = true; decide +kernel
 have h2 : ((opN k).nm.toList == (⟨#[]⟩ : ByteArray).toList) = true := by show ((⟨#[]⟩ : ByteArray).toList == _) = true; decide +kernel
 have hl : litF (opN k).v = 0 := by show litF noVl = 0; decide +kernel
 unfold opErr
 rw [h1, h2, hl, show (opN k).k = k from rfl, if_neg (by omega), if_neg (by simp), if_neg (by simp), if_neg (fun h3 => absurd h3.1 (by omega)), if_neg (by omega)]
theorem e1_un {k : Int} (hk : k = 5 ∨ k = 11) : E1 [opN k] := fun h t hh => by
 have hp : popsF k = 1 := by unfold popsF; rw [if_neg (by omega), if_pos hk]
 show exprL h (opN k :: t) = exprL h t
 rw [exprL, if_pos (err_op (by omega) (by omega))]
 show exprL (h + (1 - popsF k)) t = _
 rw [hp]; congr 1; omega
theorem e1_bin {k : Int} {a : List OpL} (hk : k = 3 ∨ k = 4 ∨ 6 ≤ k ∧ k ≤ 10) (ha : E0 a) : E1 (a ++ [opN k]) := fun h t hh => by
 have hp : popsF k = 2 := by unfold popsF; rw [if_neg (by omega), if_neg (by omega)]
 rw [List.append_assoc, ha h _ (by omega)]
 show exprL (h + 1) (opN k :: t) = exprL h t
 rw [exprL, if_pos (err_op (by omega) (by omega))]
 show exprL (h + 1 + (1 - popsF k)) t = _
 rw [hp]; congr 1; omega
theorem e0_lit {v : Vl} (hv : litF v = 0) : E0 [⟨1, v, ⟨#[]⟩⟩] := fun h t hh => by
 show exprL h (⟨1, v, ⟨#[]⟩⟩ :: t) = exprL (h + 1) t
 have he : opErr h ⟨1, v, ⟨#[]⟩⟩ = 0 := by
  unfold opErr
  rw [if_neg (show ¬ ((1 : Int) < 1 ∨ (1 : Int) > 11) by decide), if_neg (by simp [hv]), if_neg (by
   have h2 : ((⟨#[]⟩ : ByteArray).toList == (⟨#[]⟩ : ByteArray).toList) = true := by decide +kernel
   dsimp only; rw [h2]; simp), if_neg (fun h2 => absurd h2.1 (show ¬ (1 : Int) = 2 by decide)), if_neg (show ¬ h < popsF 1 by rw [show popsF 1 = 0 from rfl]; omega)]
 rw [exprL, if_pos he]
 show exprL (h + (1 - popsF 1)) t = _
 rw [show popsF 1 = 0 from rfl]; congr 1
theorem e0_col {s : ByteArray} (hs : nameF s = 0) : E0 [⟨2, noVl, s⟩] := fun h t hh => by
 show exprL h (⟨2, noVl, s⟩ :: t) = exprL (h + 1) t
 have he : opErr h ⟨2, noVl, s⟩ = 0 := by
  unfold opErr
  rw [if_neg (show ¬ ((2 : Int) < 1 ∨ (2 : Int) > 11) by decide), if_neg (by rw [show litF noVl = 0 by decide +kernel]; simp), if_neg (by
   have h1 : zeroV noVl = true := by decide +kernel
   dsimp only; rw [h1]; simp), if_neg (fun h2 => h2.2 hs), if_neg (show ¬ h < popsF 2 by rw [show popsF 2 = 0 from rfl]; omega)]
 rw [exprL, if_pos he]
 show exprL (h + (1 - popsF 2)) t = _
 rw [show popsF 2 = 0 from rfl]; congr 1
theorem w_put {o : OpL} {p : Nat} {ops : List OpL} (hp : p ≤ l.length) (h40 : ops.length ≤ 40) : W l (putP l o p ops) fun _ _ os => os = ops ++ [o] ∧ os.length ≤ 40 := by
 unfold putP; split
 ·exact w_gv (by omega) (by decide)
 exact ⟨hp, rfl, by rw [List.length_append]; simp; omega⟩
def Ad (E : List OpL → Prop) (ops os : List OpL) : Prop := ∃ new, os = ops ++ new ∧ os.length ≤ 40 ∧ GOs new ∧ E new
def lvE : Lv → List OpL → Prop
 | .prodL | .sumL | .andL | .orL => E1
 | _ => E0
theorem ad_nil {ops : List OpL} (h : ops.length ≤ 40) : Ad E1 ops ops := ⟨[], by simp, h, gos_nil, e1_nil⟩
theorem Ad.add {E : List OpL → Prop} {ops o1 o2 : List OpL} (h : Ad E ops o1) (hE : ∀ a b, E a → E1 b → E (a ++ b)) (k : Ad E1 o1 o2) : Ad E ops o2 := by
 obtain ⟨a, rfl, _, ha, ea⟩ := h
 obtain ⟨b, rfl, hb40, hb, eb⟩ := k
 exact ⟨a ++ b, by rw [List.append_assoc], hb40, gos_app ha hb, hE _ _ ea eb⟩
theorem Ad.bin {ops o1 o2 : List OpL} {k : Int} (hk : k = 3 ∨ k = 4 ∨ 6 ≤ k ∧ k ≤ 10) (h : Ad E0 ops o1) (h2 : o2 = o1 ++ [opN k] ∧ o2.length ≤ 40) : Ad E1 ops o2 := by
 obtain ⟨a, rfl, _, ha, ea⟩ := h
 obtain ⟨rfl, h40⟩ := h2
 exact ⟨a ++ [opN k], by rw [List.append_assoc], h40, gos_app ha (gos_one (go_op k)), e1_bin hk ea⟩
theorem Ad.un {ops o1 o2 : List OpL} {k : Int} (hk : k = 5 ∨ k = 11) (h : Ad E0 ops o1) (h2 : o2 = o1 ++ [opN k] ∧ o2.length ≤ 40) : Ad E0 ops o2 := by
 obtain ⟨a, rfl, _, ha, ea⟩ := h
 obtain ⟨rfl, h40⟩ := h2
 exact ⟨a ++ [opN k], by rw [List.append_assoc], h40, gos_app ha (gos_one (go_op k)), e0_app ea (e1_un hk)⟩
theorem Ad.le {E : List OpL → Prop} {ops os : List OpL} (h : Ad E ops os) : os.length ≤ 40 := by obtain ⟨_, _, h, _⟩ := h; exact h
theorem e1_cat (a b : List OpL) : E1 a → E1 b → E1 (a ++ b) := e1_app
theorem e0_cat (a b : List OpL) : E0 a → E1 b → E0 (a ++ b) := e0_app
theorem swap_app (ops a b : List OpL) : swapP (ops ++ a ++ b) ops.length (ops ++ a).length = ops ++ b ++ a := by
 unfold swapP
 rw [List.append_assoc ops a b, List.take_left, ← List.append_assoc, List.drop_left, List.take_left, List.drop_left]
theorem Ad.cmp {ops o1 o2 o3 : List OpL} {k : Int} {sw : Bool} (hk : k = 3 ∨ k = 4 ∨ 6 ≤ k ∧ k ≤ 10) (h : Ad E0 ops o1) (h2 : Ad E0 o1 o2) (h3 : o3 = (if sw = true then swapP o2 ops.length o1.length else o2) ++ [opN k] ∧ o3.length ≤ 40) : Ad E0 ops o3 := by
 obtain ⟨a, rfl, _, ha, ea⟩ := h
 obtain ⟨b, rfl, _, hb, eb⟩ := h2
 obtain ⟨rfl, h40⟩ := h3
 cases sw with
 | true =>
  rw [if_pos rfl, swap_app] at h40 ⊢
  exact ⟨b ++ (a ++ [opN k]), by simp only [List.append_assoc], h40, gos_app hb (gos_app ha (gos_one (go_op k))), e0_app eb (e1_bin hk ea)⟩
 | false =>
  rw [if_neg Bool.false_ne_true] at h40 ⊢
  exact ⟨a ++ (b ++ [opN k]), by simp only [List.append_assoc], h40, gos_app ha (gos_app hb (gos_one (go_op k))), e0_app ea (e1_bin hk eb)⟩
theorem swap_40 {ops o1 o2 : List OpL} {sw : Bool} (h : Ad E0 ops o1) (h2 : Ad E0 o1 o2) : (if sw = true then swapP o2 ops.length o1.length else o2).length ≤ 40 := by
 obtain ⟨a, rfl, _, _, _⟩ := h
 obtain ⟨b, rfl, h40, _, _⟩ := h2
 cases sw with
 | true => rw [if_pos rfl, swap_app]; simp at h40 ⊢; omega
 | false => exact h40
theorem marks_k : ∀ m ∈ marksP, m.2.1 = 3 ∨ m.2.1 = 4 ∨ 6 ≤ m.2.1 ∧ m.2.1 ≤ 10 := by decide
theorem w_loop {n p : Nat} {ops : List OpL} {c : Lv} {L : Lv} {k : Int} (hk : k = 3 ∨ k = 4 ∨ 6 ≤ k ∧ k ≤ 10) (hc : lvE c = E0) (hL : lvE L = E1) (ih : ∀ (lv : Lv) (p : Nat) (ops : List OpL), p ≤ l.length → ops.length ≤ 40 → W l (exP l n lv p ops) fun _ _ os => Ad (lvE lv) ops os) (hp : p ≤ l.length) (h40 : ops.length ≤ 40) :
  W l ((exP l n c p ops).bind fun _ p ops => (putP l (opN k) p ops).bind fun _ p ops => exP l n L p ops) fun _ _ os => Ad E1 ops os := by
 refine (ih c p ops hp h40).bind fun _ p1 o1 h1 a1 => ?_
 rw [hc] at a1
 refine (w_put h1 a1.le).bind fun _ p2 o2 h2 a2 => ?_
 have b := Ad.bin hk a1 a2
 refine (ih L p2 o2 h2 b.le).mono fun _ _ os a3 => ?_
 rw [hL] at a3
 exact b.add e1_cat a3
theorem w_two {n p : Nat} {ops : List OpL} {c : Lv} {L : Lv} (hc : lvE c = E0) (hL : lvE L = E1) (ih : ∀ (lv : Lv) (p : Nat) (ops : List OpL), p ≤ l.length → ops.length ≤ 40 → W l (exP l n lv p ops) fun _ _ os => Ad (lvE lv) ops os) (hp : p ≤ l.length) (h40 : ops.length ≤ 40) :
  W l ((exP l n c p ops).bind fun _ p ops => exP l n L p ops) fun _ _ os => Ad E0 ops os := by
 refine (ih c p ops hp h40).bind fun _ p1 o1 h1 a1 => ?_
 rw [hc] at a1
 refine (ih L p1 o1 h1 a1.le).mono fun _ _ os a3 => ?_
 rw [hL] at a3
 exact a1.add e0_cat a3
theorem ex_w (ht : TG l) : ∀ (n : Nat) (lv : Lv) (p : Nat) (ops : List OpL), p ≤ l.length → ops.length ≤ 40 → W l (exP l n lv p ops) fun _ _ os => Ad (lvE lv) ops os
 | 0, _, _, _, _, _ => by unfold exP; trivial
 | n + 1, .prim, p, ops, hp, h40 => by
  rw [prim_eq]
  refine (w_lit ht hp).bind fun v p1 o1 h1 ⟨e1, hv⟩ => ?_
  subst e1
  split
  ·rename_i hv2
   have hl := hv hv2
   exact (w_put h1 h40).mono fun _ _ os a => ⟨_, a.1, a.2, gos_one ⟨Nat.zero_le _, by have := hl.2.1; dsimp only; omega, hl.2.2⟩, e0_lit hl.1⟩
  split
  ·refine (ex_w ht n .or _ o1 (isQ_lt (by assumption)) h40).bind fun _ p2 o2 h2 a2 => ?_
   exact (w_mark h2).mono fun _ _ os a => by rw [a]; exact a2
  refine (w_name h1).bind fun s p2 o2 h2 ⟨e2, hs⟩ => ?_
  subst e2
  exact (w_put h2 h40).mono fun _ _ os a => ⟨_, a.1, a.2, gos_one ⟨small hs, by show (-9223372036854775808 : Int) ≤ 0; decide, by show (0 : Int) ≤ 9223372036854775807; decide⟩, e0_col hs⟩
 | n + 1, .prod, p, ops, hp, h40 => by rw [prod_eq]; exact w_two rfl rfl (ex_w ht n) hp h40
 | n + 1, .prodL, p, ops, hp, h40 => by
  rw [prodL_eq]; split
  ·exact w_loop (.inr (.inr (by decide))) rfl rfl (ex_w ht n) (isQ_lt (by assumption)) h40
  exact ⟨hp, ad_nil h40⟩
 | n + 1, .sum, p, ops, hp, h40 => by rw [sum_eq]; exact w_two rfl rfl (ex_w ht n) hp h40
 | n + 1, .sumL, p, ops, hp, h40 => by
  rw [sumL_eq]; split
  ·exact w_loop (.inr (.inr (by decide))) rfl rfl (ex_w ht n) (isQ_lt (by assumption)) h40
  split
  ·exact w_loop (.inr (.inr (by decide))) rfl rfl (ex_w ht n) (isQ_lt (by assumption)) h40
  exact ⟨hp, ad_nil h40⟩
 | n + 1, .comp, p, ops, hp, h40 => by
  rw [comp_eq]
  refine (ex_w ht n .sum p ops hp h40).bind fun _ p1 o1 h1 a1 => ?_
  unfold compK
  split
  ·rename_i hq
   refine (w_must (l := l) [wNULL] (p := if isQ l (p1 + 1) 1 ⟨#[78, 79, 84]⟩ = true then p1 + 2 else p1 + 1) (ops := o1) (by
    split
    ·exact isQ_lt (by assumption)
    exact isQ_lt hq)).bind fun _ p2 o2 h2 e2 => ?_
   subst e2
   refine (w_put h2 a1.le).bind fun _ p3 o3 h3 a3 => ?_
   have b := Ad.un (.inr rfl) a1 a3
   split
   ·exact (w_put h3 a3.2).mono fun _ _ os a4 => Ad.un (.inl rfl) b a4
   exact ⟨h3, b⟩
  split
  ·exact ⟨h1, a1⟩
  rename_i m hm
  have hq := List.find?_some hm
  refine (ex_w ht n .sum (p1 + 1) o1 (isQ_lt hq) a1.le).bind fun _ p2 o2 h2 a2 => ?_
  refine (w_put h2 (swap_40 a1 a2)).bind fun _ p3 o3 h3 a3 => ?_
  have b := Ad.cmp (marks_k m (List.mem_of_find?_eq_some hm)) a1 a2 a3
  split
  ·exact (w_put h3 a3.2).mono fun _ _ os a4 => Ad.un (.inl rfl) b a4
  exact ⟨h3, b⟩
 | n + 1, .not, p, ops, hp, h40 => by
  rw [not_eq]; split
  ·refine (ex_w ht n .not (p + 1) ops (isQ_lt (by assumption)) h40).bind fun _ p1 o1 h1 a1 => ?_
   exact (w_put h1 a1.le).mono fun _ _ os a2 => Ad.un (.inl rfl) a1 a2
  exact ex_w ht n .comp p ops hp h40
 | n + 1, .and, p, ops, hp, h40 => by rw [and_eq]; exact w_two rfl rfl (ex_w ht n) hp h40
 | n + 1, .andL, p, ops, hp, h40 => by
  rw [andL_eq]; split
  ·exact w_loop (.inl rfl) rfl rfl (ex_w ht n) (isQ_lt (by assumption)) h40
  exact ⟨hp, ad_nil h40⟩
 | n + 1, .or, p, ops, hp, h40 => by rw [or_eq]; exact w_two rfl rfl (ex_w ht n) hp h40
 | n + 1, .orL, p, ops, hp, h40 => by
  rw [orL_eq]; split
  ·exact w_loop (.inr (.inl rfl)) rfl rfl (ex_w ht n) (isQ_lt (by assumption)) h40
  exact ⟨hp, ad_nil h40⟩
def XOk (w : List OpL) : Prop := w.length ≤ 40 ∧ GOs w ∧ exprL 0 w = 0
theorem w_expr (ht : TG l) {p : Nat} (hp : p ≤ l.length) : W l (exprP l p) fun w _ _ => XOk w := by
 unfold exprP
 refine (ex_w ht _ .or p [] hp (Nat.zero_le _)).bind fun _ p1 o1 h1 a1 => ⟨h1, ?_⟩
 obtain ⟨new, e, h40, hg, he⟩ := a1
 rw [List.nil_append] at e
 subst e
 refine ⟨h40, hg, ?_⟩
 have := he 0 [] (Int.le_refl _)
 rw [List.append_nil] at this
 rw [this]; rfl
def WhOk (w : List OpL) : Prop := w.length ≤ 40 ∧ GOs w ∧ whereF w = 0
theorem w_where (ht : TG l) {p : Nat} {ops : List OpL} (hp : p ≤ l.length) : W l (whereP l p ops) fun w _ _ => WhOk w := by
 unfold whereP; split
 ·refine (w_expr ht (isQ_lt (by assumption))).mono fun w _ _ h => ⟨h.1, h.2.1, ?_⟩
  unfold whereF exprF
  split
  ·rfl
  rw [if_neg (by have := h.1; omega)]; exact h.2.2
 exact ⟨hp, Nat.zero_le _, gos_nil, rfl⟩

end Go.Proofs.YtjgekbmahhhokaaDoor.Pa

namespace Go.Proofs.YtjgekbmahhhokaaDoor.Pa
open Go.Proofs.Tryd
open Go.RowKit V Pk Go.Proofs.YtjgekbmahhhokaaDoor.Vl Go.Proofs.YtjgekbmahhhokaaDoor.Nm
variable {l : List Tk}
theorem colsA_snoc : ∀ (a pre : List ColL) (c : ColL), colsA pre a = 0 → colF (pre ++ a) c = 0 → colsA pre (a ++ [c]) = 0
 | [], pre, c, _, h => by
  rw [List.append_nil] at h
  show (if colF pre c ≠ 0 then colF pre c else colsA (pre ++ [c]) []) = 0
  rw [if_neg (by rw [h]; decide)]; rfl
 | x :: a, pre, c, h1, h2 => by
  have h1 : (if colF pre x ≠ 0 then colF pre x else colsA (pre ++ [x]) a) = 0 := h1
  show (if colF pre x ≠ 0 then colF pre x else colsA (pre ++ [x]) (a ++ [c])) = 0
  by_cases h0 : colF pre x ≠ 0
  ·rw [if_pos h0] at h1; exact absurd h1 h0
  rw [if_neg h0] at h1 ⊢
  exact colsA_snoc a _ c h1 (by rw [List.append_assoc]; exact h2)
theorem kind_bd {p : Nat} : 0 ≤ kindP l p ∧ kindP l p ≤ 3 ∧ (kindP l p ≠ 0 → p < l.length) := by
 unfold kindP
 split
 ·exact ⟨by decide, by decide, fun _ => isQ_lt (by assumption)⟩
 split
 ·exact ⟨by decide, by decide, fun _ => isQ_lt (by assumption)⟩
 split
 ·exact ⟨by decide, by decide, fun _ => isQ_lt (by assumption)⟩
 exact ⟨by decide, by decide, fun h => absurd rfl h⟩
def COk (c : List ColL) : Prop := colsF c = 0 ∧ c.length ≤ 6 ∧ ∀ x ∈ c, x.n.size ≤ maxLen
theorem cok {c : List ColL} (h1 : 1 ≤ c.length) (h6 : c.length ≤ 6) (h : colsA [] c = 0) : COk c := by
 have hc : colsF c = 0 := by unfold colsF; rw [if_neg (by omega)]; exact h
 exact ⟨hc, h6, fun x hx => small ((cols_good hc).2 x hx).1⟩
theorem w_cols : ∀ (n : Nat) (out : List ColL) {p : Nat} {ops : List OpL}, p ≤ l.length → out.length ≤ 6 → colsA [] out = 0 → W l (colsP l n out p ops) fun c _ _ => COk c
 | 0, _, _, _, _, _, _ => trivial
 | n + 1, out, p, ops, hp, h6, hc => by
  unfold colsP
  split
  ·exact w_gv hp (by decide)
  rename_i hn6
  refine (w_name hp).bind fun s p1 o1 h1 ⟨_, hs⟩ => ?_
  split
  ·exact w_gv (by omega) (by decide)
  rename_i hd
  split
  ·exact w_gv h1 (by decide)
  rename_i hk
  have kb := kind_bd (l := l) (p := p1)
  have hsn : colsA [] (out ++ [⟨s, kindP l p1⟩]) = 0 := by
   refine colsA_snoc _ _ _ hc ?_
   rw [List.nil_append]
   unfold colF
   rw [if_neg (by rw [hs]; decide), if_neg (show ¬ (kindP l p1 < 1 ∨ kindP l p1 > 3) by omega)]
   exact if_neg hd
  have hlen : (out ++ [(⟨s, kindP l p1⟩ : ColL)]).length = out.length + 1 := by simp
  split
  ·exact w_cols n _ (isQ_lt (by assumption)) (by omega) hsn
  refine (w_mark (kb.2.2 hk)).bind fun _ p3 o3 h3 _ => ⟨h3, cok (by omega) (by omega) hsn⟩
theorem first_all {α : Type} {f : α → Int} : ∀ {a : List α}, (∀ x ∈ a, f x = 0) → firstE f a = 0
 | [], _ => rfl
 | x :: r, h => by
  rw [firstE, if_neg (by rw [h x List.mem_cons_self]; decide)]
  exact first_all fun y hy => h y (List.mem_cons_of_mem _ hy)
def ROk (r : List Vl) : Prop := rowF r = 0 ∧ r.length ≤ 6 ∧ ∀ v ∈ r, -9223372036854775808 ≤ v.n ∧ v.n ≤ 9223372036854775807
theorem w_row (ht : TG l) : ∀ (n : Nat) (out : List Vl) {p : Nat} {ops : List OpL}, p ≤ l.length → out.length ≤ 6 → (∀ v ∈ out, LitOk v) → W l (rowP l n out p ops) fun r _ _ => ROk r
 | 0, _, _, _, _, _, _ => trivial
 | n + 1, out, p, ops, hp, h6, hc => by
  unfold rowP
  split
  ·exact w_gv hp (by decide)
  rename_i hn6
  refine (w_lit ht hp).bind fun v p1 o1 h1 ⟨_, hv⟩ => ?_
  split
  ·exact w_gv h1 (by decide)
  rename_i hv2
  have hl := hv (by simpa using hv2)
  have hall : ∀ x ∈ out ++ [v.1], LitOk x := fun x hx => by
   rcases List.mem_append.1 hx with hx | hx
   ·exact hc x hx
   rw [List.mem_singleton.1 hx]; exact hl
  have hlen : (out ++ [v.1]).length = out.length + 1 := by simp
  split
  ·exact w_row ht n _ (isQ_lt (by assumption)) (by omega) hall
  refine (w_mark h1).bind fun _ p3 o3 h3 _ => ⟨h3, ?_, by omega, fun x hx => ?_⟩
  ·unfold rowF; rw [if_neg (by omega)]; exact first_all fun x hx => (hall x hx).1
  have := (hall x hx).2; omega
def NOk (n : List ByteArray) : Prop := n.length ≤ 6 ∧ ∀ x ∈ n, nameF x = 0
theorem w_names : ∀ (n : Nat) (out : List ByteArray) {p : Nat} {ops : List OpL}, p ≤ l.length → NOk out → W l (namesP l n out p ops) fun r _ _ => NOk r
 | 0, _, _, _, _, _ => trivial
 | n + 1, out, p, ops, hp, hc => by
  unfold namesP
  split
  ·exact w_gv hp (by decide)
  rename_i hn6
  refine (w_name hp).bind fun s p1 o1 h1 ⟨_, hs⟩ => ?_
  have hall : NOk (out ++ [s]) := ⟨by have := hc.1; simp; omega, fun x hx => by
   rcases List.mem_append.1 hx with hx | hx
   ·exact hc.2 x hx
   rw [List.mem_singleton.1 hx]; exact hs⟩
  split
  ·exact w_names n _ (isQ_lt (by assumption)) hall
  exact ⟨h1, hall⟩
theorem w_head {p : Nat} {ops : List OpL} (hp : p ≤ l.length) : W l (headP l p ops) fun h _ _ => NOk h.1 ∧ (h.2 = true → h.1 = []) := by
 unfold headP
 split
 ·exact ⟨isQ_lt (by assumption), ⟨Nat.zero_le _, fun _ h => by cases h⟩, fun _ => rfl⟩
 split
 ·exact (w_mark (isQ_lt (by assumption))).bind fun _ _ _ h1 _ => (w_mark h1).bind fun _ _ _ h2 _ => (w_mark h2).bind fun _ _ _ h3 _ => ⟨h3, ⟨Nat.zero_le _, fun _ h => by cases h⟩, fun _ => rfl⟩
 exact (w_names 8 [] hp ⟨Nat.zero_le _, fun _ h => by cases h⟩).bind fun ns _ _ h1 hn => ⟨h1, hn, fun h => absurd h Bool.false_ne_true⟩
def GoodP (s : StL) : Prop := FinS s ∧ 1 ≤ s.kind ∧ s.kind ≤ 9 ∧ s.limit ≤ 9223372036854775807 ∧ checkS s = 0
def SelOk (t : ByteArray) (N : List ByteArray) (c : Bool) (w : List OpL) (s : StL) : Prop := ∃ o d m, s = { st0 with kind := 4, table := t, names := N, count := c, wher := w, order := o, down := d, limit := m } ∧ (o = ⟨#[]⟩ ∨ nameF o = 0) ∧ (o = ⟨#[]⟩ → d = false) ∧ -1 ≤ m ∧ m ≤ 9223372036854775807
theorem name_pos {s : ByteArray} (h : nameF s = 0) : s ≠ ⟨#[]⟩ := fun e => by rw [e] at h; exact absurd h (by decide +kernel)
theorem w_tail (ht : TG l) {t : ByteArray} {N : List ByteArray} {c : Bool} {w : List OpL} {p : Nat} {ops : List OpL} (hp : p ≤ l.length) : W l (tailP l { st0 with kind := 4, names := N, count := c, table := t, wher := w } p ops) fun s _ _ => SelOk t N c w s := by
 have hlim : ∀ (o : ByteArray) (d : Bool) (p : Nat) (ops : List OpL), p ≤ l.length → (o = ⟨#[]⟩ ∨ nameF o = 0) → (o = ⟨#[]⟩ → d = false) → W l (limP l { st0 with kind := 4, names := N, count := c, table := t, wher := w, order := o, down := d } p ops) fun s _ _ => SelOk t N c w s := by
  intro o d p ops hp ho hd
  unfold limP
  split
  ·rename_i hq
   split
   ·rename_i h
    have hk : (l[p + 1]'h.1).k = 2 := by rw [← at_mem h.1]; exact h.2
    have hm := ht _ (List.getElem_mem h.1)
    have h0 := num_pos hm.1 hk
    exact ⟨h.1, o, d, _, rfl, ho, hd, by omega, hm.2.2⟩
   exact w_gv (isQ_lt hq) (by decide)
  exact ⟨hp, o, d, -1, rfl, ho, hd, by decide, by decide⟩
 have hord : W l (ordP l { st0 with kind := 4, names := N, count := c, table := t, wher := w } p ops) fun s _ _ => ∃ o d, s = { st0 with kind := 4, names := N, count := c, table := t, wher := w, order := o, down := d } ∧ (o = ⟨#[]⟩ ∨ nameF o = 0) ∧ (o = ⟨#[]⟩ → d = false) := by
  unfold ordP
  split
  ·refine (w_must _ (isQ_lt (by assumption))).bind fun _ p1 o1 h1 _ => (w_name h1).bind fun n p2 o2 h2 ⟨_, hn⟩ => ⟨?_, n, _, rfl, .inr hn, fun h => absurd h (name_pos hn)⟩
   split
   ·exact isQ_lt (by assumption)
   exact h2
  exact ⟨hp, ⟨#[]⟩, false, rfl, .inl rfl, fun _ => rfl⟩
 unfold tailP
 exact hord.bind fun s p1 o1 h1 ⟨o, d, e, ho, hd⟩ => by rw [e]; exact hlim o d p1 o1 h1 ho hd
theorem fin_of {s : StL} (ok : okS s) (t : s.table.size ≤ maxLen) (c : ∀ c ∈ s.cols, c.n.size ≤ maxLen) (n : ∀ x ∈ s.names, nameF x = 0) (o : s.order.size ≤ maxLen) (e : s.set.size ≤ maxLen) (r : ∀ v ∈ s.row, -9223372036854775808 ≤ v.n ∧ v.n ≤ 9223372036854775807) (w : GOs s.wher) (x : GOs s.to) : FinS s :=
 ⟨ok, t, c, fun x hx => small (n x hx), o, e, r, w, x⟩
theorem good_sel {t : ByteArray} (ht : nameF t = 0) {N : List ByteArray} (hN : NOk N) {c : Bool} (hc : c = true → N = []) {w : List OpL} (hw : WhOk w) {s : StL} (h : SelOk t N c w s) : GoodP s := by
 obtain ⟨o, d, m, rfl, ho, hd, hm, hm2⟩ := h
 have hos : o.size ≤ maxLen := by
  rcases ho with rfl | h
  ·exact Nat.zero_le _
  exact small h
 refine ⟨fin_of ⟨Nat.zero_le _, Nat.zero_le _, hN.1, hw.1, Nat.zero_le _⟩ (small ht) (fun _ h => by cases h) hN.2 hos (Nat.zero_le _) (fun _ h => by cases h) hw.2.1 gos_nil, by show (1 : Int) ≤ 4; decide, by show (4 : Int) ≤ 9; decide, hm2, check_mk ht ?_ kr_⟩
 show pickF { st0 with kind := 4, table := t, names := N, count := c, wher := w, order := o, down := d, limit := m } = 0
 have hn0 : firstE nameF N = 0 := first_all hN.2
 have hN1 := hN.1
 have hw0 := hw.2.2
 unfold pickF
 dsimp only
 rw [if_neg (by omega), if_neg (by omega), if_neg (by
  rintro (⟨h1, h2⟩ | ⟨h1, h2⟩)
  ·rw [hc h1] at h2; simp at h2
  rw [hd (eqS_iff.1 h2)] at h1; cases h1), if_neg (by rw [hn0]; decide), if_neg (by rw [hw0]; decide)]
 split
 ·rfl
 rename_i h2
 exact ho.resolve_left fun h => h2 (eqS_iff.2 h)
theorem good_create {t : ByteArray} (ht : nameF t = 0) {c : List ColL} (h : COk c) : GoodP { st0 with kind := 1, table := t, cols := c } :=
 ⟨fin_of ⟨h.2.1, Nat.zero_le _, Nat.zero_le _, Nat.zero_le _, Nat.zero_le _⟩ (small ht) h.2.2 (fun _ h => by cases h) (Nat.zero_le _) (Nat.zero_le _) (fun _ h => by cases h) gos_nil gos_nil, by show (1 : Int) ≤ 1; decide, by show (1 : Int) ≤ 9; decide, by show (-1 : Int) ≤ _; decide, check_mk ht (show colsF c = 0 from h.1) kr_⟩
theorem good_drop {t : ByteArray} (ht : nameF t = 0) : GoodP { st0 with kind := 2, table := t } :=
 ⟨fin_of ⟨Nat.zero_le _, Nat.zero_le _, Nat.zero_le _, Nat.zero_le _, Nat.zero_le _⟩ (small ht) (fun _ h => by cases h) (fun _ h => by cases h) (Nat.zero_le _) (Nat.zero_le _) (fun _ h => by cases h) gos_nil gos_nil, by show (1 : Int) ≤ 2; decide, by show (2 : Int) ≤ 9; decide, by show (-1 : Int) ≤ _; decide, check_mk ht kr_ kr_⟩
theorem good_insert {t : ByteArray} (ht : nameF t = 0) {r : List Vl} (h : ROk r) : GoodP { st0 with kind := 3, table := t, row := r } :=
 ⟨fin_of ⟨Nat.zero_le _, h.2.1, Nat.zero_le _, Nat.zero_le _, Nat.zero_le _⟩ (small ht) (fun _ h => by cases h) (fun _ h => by cases h) (Nat.zero_le _) (Nat.zero_le _) h.2.2 gos_nil gos_nil, by show (1 : Int) ≤ 3; decide, by show (3 : Int) ≤ 9; decide, by show (-1 : Int) ≤ _; decide, check_mk ht (show rowF r = 0 from h.1) kr_⟩
theorem good_update {t c : ByteArray} (ht : nameF t = 0) (hc : nameF c = 0) {e w : List OpL} (he : XOk e) (hw : WhOk w) : GoodP { st0 with kind := 5, table := t, set := c, to := e, wher := w } :=
 ⟨fin_of ⟨Nat.zero_le _, Nat.zero_le _, Nat.zero_le _, hw.1, he.1⟩ (small ht) (fun _ h => by cases h) (fun _ h => by cases h) (Nat.zero_le _) (small hc) (fun _ h => by cases h) hw.2.1 he.2.1, by show (1 : Int) ≤ 5; decide, by show (5 : Int) ≤ 9; decide, by show (-1 : Int) ≤ _; decide, check_mk ht (by
  show (if nameF c = 0 then (if exprF e = 0 then whereF w else exprF e) else nameF c) = 0
  have hx : exprF e = 0 := by unfold exprF; rw [if_neg (by have := he.1; omega)]; exact he.2.2
  rw [if_pos hc, if_pos hx, hw.2.2]) kr_⟩
theorem good_delete {t : ByteArray} (ht : nameF t = 0) {w : List OpL} (hw : WhOk w) : GoodP { st0 with kind := 6, table := t, wher := w } :=
 ⟨fin_of ⟨Nat.zero_le _, Nat.zero_le _, Nat.zero_le _, hw.1, Nat.zero_le _⟩ (small ht) (fun _ h => by cases h) (fun _ h => by cases h) (Nat.zero_le _) (Nat.zero_le _) (fun _ h => by cases h) hw.2.1 gos_nil, by show (1 : Int) ≤ 6; decide, by show (6 : Int) ≤ 9; decide, by show (-1 : Int) ≤ _; decide, check_mk ht (show whereF w = 0 from hw.2.2) kr_⟩
theorem good_end {k : Int} (h : k = 7 ∨ k = 8 ∨ k = 9) : GoodP { st0 with kind := k } := by
 refine ⟨fin_of ⟨Nat.zero_le _, Nat.zero_le _, Nat.zero_le _, Nat.zero_le _, Nat.zero_le _⟩ (Nat.zero_le _) (fun _ h => by cases h) (fun _ h => by cases h) (Nat.zero_le _) (Nat.zero_le _) (fun _ h => by cases h) gos_nil gos_nil, by show 1 ≤ k; omega, by show k ≤ 9; omega, by show (-1 : Int) ≤ _; decide, ?_⟩
 rcases h with rfl | rfl | rfl <;> kernel_rfl
theorem st_w (ht : TG l) : W l (stP l 0 []) fun s _ _ => GoodP s := by
 unfold stP
 split
 ·exact (w_must _ (isQ_lt (by assumption))).bind fun _ _ _ h1 _ => (w_name h1).bind fun t _ _ h2 ⟨_, hn⟩ => W.bind (by unfold colsB; exact (w_mark h2).bind fun _ _ _ h3 _ => w_cols 8 [] h3 (Nat.zero_le _) rfl) fun c _ _ h4 hc => ⟨h4, good_create hn hc⟩
 split
 ·exact (w_must _ (isQ_lt (by assumption))).bind fun _ _ _ h1 _ => (w_name h1).bind fun t _ _ h2 ⟨_, hn⟩ => ⟨h2, good_drop hn⟩
 split
 ·exact (w_must _ (isQ_lt (by assumption))).bind fun _ _ _ h1 _ => (w_name h1).bind fun t _ _ h2 ⟨_, hn⟩ => (w_must _ h2).bind fun _ _ _ h3 _ => W.bind (by unfold rowB; exact (w_mark h3).bind fun _ _ _ h4 _ => w_row ht 8 [] h4 (Nat.zero_le _) (fun _ h => by cases h)) fun r _ _ h5 hr => ⟨h5, good_insert hn hr⟩
 split
 ·unfold pickP
  exact (w_head (isQ_lt (by assumption))).bind fun h _ _ h1 ⟨hN, hc⟩ => by
   unfold pickK
   exact (w_must _ h1).bind fun _ _ _ h2 _ => (w_name h2).bind fun t _ _ h3 ⟨_, hn⟩ => (w_where ht h3).bind fun w _ _ h4 hw => (w_tail ht h4).mono fun s _ _ hs => good_sel hn hN hc hw hs
 split
 ·exact (w_name (isQ_lt (by assumption))).bind fun t _ _ h1 ⟨_, hn⟩ => (w_must _ h1).bind fun _ _ _ h2 _ => (w_name h2).bind fun c _ _ h3 ⟨_, hc⟩ => (w_mark h3).bind fun _ _ _ h4 _ => (w_expr ht h4).bind fun e _ _ h5 he => (w_where ht h5).bind fun w _ _ h6 hw => ⟨h6, good_update hn hc he hw⟩
 split
 ·exact (w_must _ (isQ_lt (by assumption))).bind fun _ _ _ h1 _ => (w_name h1).bind fun t _ _ h2 ⟨_, hn⟩ => (w_where ht h2).bind fun w _ _ h3 hw => ⟨h3, good_delete hn hw⟩
 split
 ·exact ⟨isQ_lt (by assumption), good_end (.inl rfl)⟩
 split
 ·exact ⟨isQ_lt (by assumption), good_end (.inr (.inl rfl))⟩
 split
 ·exact ⟨isQ_lt (by assumption), good_end (.inr (.inr rfl))⟩
 exact w_gv (Nat.zero_le _) (by decide)
end Go.Proofs.YtjgekbmahhhokaaDoor.Pa

namespace Go.Proofs.YtjgekbmahhhokaaDoor.Pa
open Go.Proofs.Tryd
open Go.RowKit V Pk Go.Proofs.YtjgekbmahhhokaaDoor.Vl Go.Proofs.YtjgekbmahhhokaaDoor.Nm
variable {l : List Tk} {k : Nat}
theorem isQ_take {p : Nat} {kd : Int} {s : ByteArray} (h : p < k) : isQ (l.take k) p kd s = isQ l p kd s := by
 unfold isQ
 by_cases hp : p < l.length
 ·rw [dif_pos hp, dif_pos (by rw [List.length_take]; omega), List.getElem_take]
 rw [dif_neg hp, dif_neg (by rw [List.length_take]; omega)]
theorem isQ_end {kd : Int} {s : ByteArray} : isQ (l.take k) k kd s = false := by
 unfold isQ; rw [dif_neg (by rw [List.length_take]; omega)]
def En (k : Nat) {α : Type} (r : Rs α) : Prop := r = .no k 7 ∨ r = .stuck ∨ ∃ v os, r = .ok v k os
def Ng (k : Nat) {α : Type} (r : Rs α) : Prop := r = .no k 7 ∨ r = .stuck
theorem ng_bind {α β : Type} {r : Rs α} {f : α → Nat → List OpL → Rs β} (h : Ng k r) : Ng k (r.bind f) := by
 rcases h with rfl | rfl
 ·exact .inl rfl
 exact .inr rfl
theorem Ng.en {α : Type} {r : Rs α} (h : Ng k r) : En k r := h.elim .inl fun h => .inr (.inl h)
def Sn (k : Nat) {α : Type} (r r' : Rs α) : Prop := ∀ v q os, r = .ok v q os → (r' = .ok v q os ∧ q ≤ k) ∨ Ng k r'
theorem Sn.ng {α : Type} {r r' : Rs α} (h : Ng k r') : Sn k r r' := fun _ _ _ _ => .inr h
theorem Sn.no {α : Type} {r' : Rs α} {p : Nat} {e : Int} : Sn k (gv l p e : Rs α) r' := fun v q os h => by unfold gv at h; cases h
theorem Sn.ok {α : Type} {v : α} {p : Nat} {os : List OpL} (hp : p ≤ k) : Sn k (.ok v p os) (.ok v p os) := fun v q os h => by cases h; exact .inl ⟨rfl, hp⟩
theorem Sn.bind {α β : Type} {r r' : Rs α} {f f' : α → Nat → List OpL → Rs β} (h : Sn k r r') (hs : ∀ v q os, q ≤ k → r = .ok v q os → Sn k (f v q os) (f' v q os)) : Sn k (r.bind f) (r'.bind f') := fun w q2 o2 hr => by
 cases hr0 : r with
 | ok v q os =>
  rw [hr0] at hr
  rcases h v q os hr0 with ⟨h1, h2⟩ | h1
  ·rw [h1]; exact hs v q os h2 hr0 w q2 o2 hr
  exact .inr (ng_bind h1)
 | no p e => rw [hr0] at hr; cases hr
 | stuck => rw [hr0] at hr; cases hr
def Sm (k : Nat) {α : Type} (r r' : Rs α) : Prop := ∀ v q os, r = .ok v q os → (r' = .ok v q os ∧ q ≤ k) ∨ En k r'
theorem Sn.sm {α : Type} {r r' : Rs α} (h : Sn k r r') : Sm k r r' := fun v q os e => (h v q os e).imp id Ng.en
theorem Sm.en {α : Type} {r r' : Rs α} (h : En k r') : Sm k r r' := fun _ _ _ _ => .inr h
theorem Sn.bindm {α β : Type} {r r' : Rs α} {f f' : α → Nat → List OpL → Rs β} (h : Sn k r r') (hs : ∀ v q os, q ≤ k → r = .ok v q os → Sm k (f v q os) (f' v q os)) : Sm k (r.bind f) (r'.bind f') := fun w q2 o2 hr => by
 cases hr0 : r with
 | ok v q os =>
  rw [hr0] at hr
  rcases h v q os hr0 with ⟨h1, h2⟩ | h1
  ·rw [h1]; exact hs v q os h2 hr0 w q2 o2 hr
  exact .inr (ng_bind h1).en
 | no p e => rw [hr0] at hr; cases hr
 | stuck => rw [hr0] at hr; cases hr
theorem en_bind {α β : Type} {r : Rs α} {f : α → Nat → List OpL → Rs β} (h : En k r) (hf : ∀ v os, En k (f v k os)) : En k (r.bind f) := by
 rcases h with rfl | rfl | ⟨v, os, rfl⟩
 ·exact .inl rfl
 ·exact .inr (.inl rfl)
 exact hf v os
theorem Sm.bind {α β : Type} {r r' : Rs α} {f f' : α → Nat → List OpL → Rs β} (h : Sm k r r') (hs : ∀ v q os, q ≤ k → r = .ok v q os → Sm k (f v q os) (f' v q os)) (he : ∀ v os, En k (f' v k os)) : Sm k (r.bind f) (r'.bind f') := fun w q2 o2 hr => by
 cases hr0 : r with
 | ok v q os =>
  rw [hr0] at hr
  rcases h v q os hr0 with ⟨h1, h2⟩ | h1
  ·rw [h1]; exact hs v q os h2 hr0 w q2 o2 hr
  exact .inr (en_bind h1 he)
 | no p e => rw [hr0] at hr; cases hr
 | stuck => rw [hr0] at hr; cases hr
variable (hkl : k ≤ l.length)
include hkl
theorem len_k : (l.take k).length = k := by rw [List.length_take]; omega
theorem ng_gv {α : Type} {e : Int} : Ng k (gv (l.take k) k e : Rs α) := by
 left; unfold gv; rw [if_pos (by rw [len_k hkl]; exact Nat.le_refl _)]
theorem ng_must {w : ByteArray} {r : List ByteArray} {ops : List OpL} : Ng k (mustP (l.take k) (w :: r) k ops) := by
 unfold mustP; rw [isQ_end, if_neg Bool.false_ne_true]; exact ng_gv hkl
theorem ng_mark {s : ByteArray} {ops : List OpL} : Ng k (markP (l.take k) s k ops) := by
 unfold markP; rw [isQ_end, if_neg Bool.false_ne_true]; exact ng_gv hkl
theorem ng_name {ops : List OpL} : Ng k (nameP (l.take k) k ops) := by
 unfold nameP; rw [dif_neg (by rw [len_k hkl]; omega)]; exact ng_gv hkl
theorem lit_end {ops : List OpL} : litP (l.take k) k ops = .ok (noVl, false) k ops := by
 unfold litP
 rw [isQ_end, isQ_end, isQ_end, isQ_end, if_neg Bool.false_ne_true, if_neg Bool.false_ne_true, if_neg Bool.false_ne_true, dif_neg (by rw [len_k hkl]; omega), if_neg Bool.false_ne_true, dif_neg (by rw [len_k hkl]; omega)]
theorem sn_must : ∀ (ws : List ByteArray) {p : Nat} {ops : List OpL}, p ≤ k → Sn k (mustP l ws p ops) (mustP (l.take k) ws p ops)
 | [], p, ops, hp => fun v q os h => by
  unfold mustP at h; cases h
  exact .inl ⟨by unfold mustP; rfl, hp⟩
 | w :: r, p, ops, hp => by
  by_cases hk : p = k
  ·subst hk; exact Sn.ng (ng_must hkl)
  unfold mustP; rw [isQ_take (by omega)]
  split
  ·exact sn_must r (by omega)
  intro v q os h; unfold gv at h; cases h
theorem sn_mark {s : ByteArray} {p : Nat} {ops : List OpL} (hp : p ≤ k) : Sn k (markP l s p ops) (markP (l.take k) s p ops) := by
 by_cases hk : p = k
 ·subst hk; exact Sn.ng (ng_mark hkl)
 unfold markP; rw [isQ_take (by omega)]
 split
 ·intro v q os h; cases h; exact .inl ⟨rfl, by omega⟩
 intro v q os h; unfold gv at h; cases h
theorem sn_name {p : Nat} {ops : List OpL} (hp : p ≤ k) : Sn k (nameP l p ops) (nameP (l.take k) p ops) := by
 by_cases hk : p = k
 ·subst hk; exact Sn.ng (ng_name hkl)
 unfold nameP
 rw [dif_pos (show p < l.length by omega), dif_pos (show p < (l.take k).length by rw [len_k hkl]; omega), List.getElem_take]
 split
 ·intro v q os h; unfold gv at h; cases h
 split
 ·intro v q os h; unfold gv at h; cases h
 intro v q os h; cases h; exact .inl ⟨rfl, by omega⟩
theorem getD_take {p : Nat} (h : p < k) : (l.take k).getD p ⟨0, ⟨#[]⟩, 0⟩ = l.getD p ⟨0, ⟨#[]⟩, 0⟩ := by
 rw [at_mem (l := l.take k) (by rw [len_k hkl]; exact h), at_mem (l := l) (by omega), List.getElem_take]
theorem sn_lit {p : Nat} {ops : List OpL} (hp : p < k) : Sn k (litP l p ops) (litP (l.take k) p ops) := by
 have hl : p < l.length := by omega
 have hl' : p < (l.take k).length := by rw [len_k hkl]; exact hp
 intro v q os h
 unfold litP at h ⊢
 rw [isQ_take hp, isQ_take hp, isQ_take hp, isQ_take hp]
 have hgd := getD_take hkl hp
 split at h
 ·cases h; rw [if_pos (by assumption)]; exact .inl ⟨rfl, by omega⟩
 rw [if_neg (by assumption)]
 split at h
 ·cases h; rw [if_pos (by assumption)]; exact .inl ⟨rfl, by omega⟩
 rw [if_neg (by assumption)]
 split at h
 ·cases h; rw [if_pos (by assumption)]; exact .inl ⟨rfl, by omega⟩
 rw [if_neg (by assumption)]
 split at h
 ·rename_i h3
  rw [dif_pos ⟨hl', by rw [hgd]; exact h3.2⟩, List.getElem_take]
  split at h
  ·unfold gv at h; cases h
  cases h; rw [if_neg (by assumption)]; exact .inl ⟨rfl, by omega⟩
 rename_i h3
 rw [dif_neg (fun h4 => h3 ⟨hl, by rw [← hgd]; exact h4.2⟩)]
 split at h
 ·rename_i hm
  rw [if_pos hm]
  split at h
  ·rename_i h2
   cases h
   by_cases hk : p + 1 = k
   ·rw [dif_neg (by rw [len_k hkl]; omega)]
    right; subst hk; exact ng_gv hkl
   rw [dif_pos ⟨by rw [len_k hkl]; omega, by rw [getD_take hkl (by omega)]; exact h2.2⟩, List.getElem_take]
   exact .inl ⟨rfl, by omega⟩
  unfold gv at h; cases h
 rename_i hm
 rw [if_neg hm]
 split at h
 ·rename_i h2
  cases h
  rw [dif_pos ⟨hl', by rw [hgd]; exact h2.2⟩, List.getElem_take]
  exact .inl ⟨rfl, by omega⟩
 rename_i h2
 cases h
 rw [dif_neg (fun h4 => h2 ⟨hl, by rw [← hgd]; exact h4.2⟩)]
 exact .inl ⟨rfl, by omega⟩

/-! ### Expressions -/
omit hkl
theorem put_ok (l : List Tk) {o : OpL} {p : Nat} {ops : List OpL} (h : ops.length ≠ 40) : putP l o p ops = .ok () p (ops ++ [o]) := by unfold putP; rw [if_neg h]
include hkl
theorem ng_prim (n : Nat) (os : List OpL) : Ng k (exP (l.take k) n .prim k os) := by
 cases n with
 | zero => right; unfold exP; rfl
 | succ n =>
  rw [prim_eq, lit_end hkl, bind_ok, if_neg Bool.false_ne_true, isQ_end, if_neg Bool.false_ne_true]
  exact ng_bind (ng_name hkl)
def hdL : Lv → Bool
 | .prodL | .sumL | .andL | .orL => false
 | _ => true
theorem ng_head : ∀ (n : Nat) (lv : Lv) (os : List OpL), hdL lv = true → Ng k (exP (l.take k) n lv k os)
 | 0, _, _, _ => .inr (by unfold exP; rfl)
 | n + 1, .prim, os, _ => ng_prim hkl _ os
 | n + 1, .prod, os, _ => by rw [prod_eq]; exact ng_bind (ng_head n .prim os rfl)
 | n + 1, .sum, os, _ => by rw [sum_eq]; exact ng_bind (ng_head n .prod os rfl)
 | n + 1, .comp, os, _ => by rw [comp_eq]; exact ng_bind (ng_head n .sum os rfl)
 | n + 1, .not, os, _ => by rw [not_eq, isQ_end, if_neg Bool.false_ne_true]; exact ng_head n .comp os rfl
 | n + 1, .and, os, _ => by rw [and_eq]; exact ng_bind (ng_head n .not os rfl)
 | n + 1, .or, os, _ => by rw [or_eq]; exact ng_bind (ng_head n .and os rfl)
 | n + 1, .prodL, _, h => by cases h
 | n + 1, .sumL, _, h => by cases h
 | n + 1, .andL, _, h => by cases h
 | n + 1, .orL, _, h => by cases h
omit hkl
theorem loop_end (n : Nat) (lv : Lv) (os : List OpL) (h : hdL lv = false) : exP (l.take k) n lv k os = .ok () k os ∨ exP (l.take k) n lv k os = .stuck := by
 cases n with
 | zero => right; unfold exP; rfl
 | succ n =>
  left
  cases lv with
  | prodL => rw [prodL_eq, isQ_end, if_neg Bool.false_ne_true]
  | sumL => rw [sumL_eq, isQ_end, isQ_end, if_neg Bool.false_ne_true, if_neg Bool.false_ne_true]
  | andL => rw [andL_eq, isQ_end, if_neg Bool.false_ne_true]
  | orL => rw [orL_eq, isQ_end, if_neg Bool.false_ne_true]
  | _ => cases h
def Sx (k : Nat) (r r' : Rs Unit) : Prop := ∀ v q os, r = .ok v q os → (r' = .ok v q os ∧ q ≤ k) ∨ Ng k r' ∨ ∃ os', r' = .ok () k os' ∧ os'.length ≤ os.length
theorem must_len : ∀ (ws : List ByteArray) {p q : Nat} {ops os : List OpL} {v : Unit}, mustP l ws p ops = .ok v q os → os = ops
 | [], _, _, _, _, _, h => by unfold mustP at h; cases h; rfl
 | w :: r, _, _, _, _, _, h => by
  unfold mustP at h
  split at h
  ·exact must_len r h
  unfold gv at h; cases h
theorem add_len {E : List OpL → Prop} {ops os : List OpL} (h : Ad E ops os) : ops.length ≤ os.length := by
 obtain ⟨n, rfl, _⟩ := h; simp
theorem ex_ad (ht : TG l) {n : Nat} {lv : Lv} {p q : Nat} {ops os : List OpL} {v : Unit} (hp : p ≤ l.length) (h40 : ops.length ≤ 40) (h : exP l n lv p ops = .ok v q os) : q ≤ l.length ∧ os.length ≤ 40 ∧ ops.length ≤ os.length := by
 have := ex_w ht n lv p ops hp h40
 rw [h] at this
 exact ⟨this.1, this.2.le, add_len this.2⟩
theorem x_two (ht : TG l) (hkl : k ≤ l.length) {n p : Nat} {ops : List OpL} {c L : Lv} (hL : hdL L = false) (ih : ∀ (lv : Lv) (p : Nat) (ops : List OpL), p ≤ k → ops.length ≤ 40 → Sx k (exP l n lv p ops) (exP (l.take k) n lv p ops)) (hp : p ≤ k) (h40 : ops.length ≤ 40) :
  Sx k ((exP l n c p ops).bind fun _ p ops => exP l n L p ops) ((exP (l.take k) n c p ops).bind fun _ p ops => exP (l.take k) n L p ops) := fun v q os h => by
 obtain ⟨v1, q1, o1, h1, h2⟩ := bind_inv h
 obtain ⟨b1, b2, b3⟩ := ex_ad ht (by omega) h40 h1
 obtain ⟨_, _, b4⟩ := ex_ad ht b1 b2 h2
 rcases ih c p ops hp h40 _ _ _ h1 with ⟨e, hq⟩ | e | ⟨os', e, hle⟩
 ·rw [e, bind_ok]; exact ih L q1 o1 hq b2 _ _ _ h2
 ·exact .inr (.inl (ng_bind e))
 rw [e, bind_ok]
 rcases loop_end (l := l) (k := k) n L os' hL with e2 | e2
 ·rw [e2]; exact .inr (.inr ⟨os', rfl, by omega⟩)
 rw [e2]; exact .inr (.inl (.inr rfl))
theorem x_loop (ht : TG l) (hkl : k ≤ l.length) {n p : Nat} {ops : List OpL} {c L : Lv} {o : OpL} (hL : hdL L = false) (ih : ∀ (lv : Lv) (p : Nat) (ops : List OpL), p ≤ k → ops.length ≤ 40 → Sx k (exP l n lv p ops) (exP (l.take k) n lv p ops)) (hp : p ≤ k) (h40 : ops.length ≤ 40) :
  Sx k ((exP l n c p ops).bind fun _ p ops => (putP l o p ops).bind fun _ p ops => exP l n L p ops) ((exP (l.take k) n c p ops).bind fun _ p ops => (putP (l.take k) o p ops).bind fun _ p ops => exP (l.take k) n L p ops) := fun v q os h => by
 obtain ⟨v1, q1, o1, h1, h2⟩ := bind_inv h
 obtain ⟨v2, q2, o2, h2, h3⟩ := bind_inv h2
 obtain ⟨rfl, rfl, hn⟩ := put_inv h2
 obtain ⟨b1, b2, b3⟩ := ex_ad ht (by omega) h40 h1
 have hlen : (o1 ++ [o]).length = o1.length + 1 := by simp
 obtain ⟨_, _, b4⟩ := ex_ad ht b1 (by omega) h3
 rcases ih c p ops hp h40 _ _ _ h1 with ⟨e, hq⟩ | e | ⟨os', e, hle⟩
 ·rw [e, bind_ok, put_ok _ hn, bind_ok]; exact ih L q2 _ hq (by omega) _ _ _ h3
 ·exact .inr (.inl (ng_bind e))
 rw [e, bind_ok, put_ok _ (by omega), bind_ok]
 have hl2 : (os' ++ [o]).length = os'.length + 1 := by simp
 rcases loop_end (l := l) (k := k) n L (os' ++ [o]) hL with e2 | e2
 ·rw [e2]; exact .inr (.inr ⟨_, rfl, by omega⟩)
 rw [e2]; exact .inr (.inl (.inr rfl))
theorem x_ng {r r' : Rs Unit} (h : Ng k r') : Sx k r r' := fun _ _ _ _ => .inr (.inl h)
theorem x_ok {p : Nat} {ops : List OpL} (hp : p ≤ k) : Sx k (.ok () p ops) (.ok () p ops) := fun v q os h => by cases h; exact .inl ⟨rfl, hp⟩
theorem x_put {o : OpL} {p : Nat} {ops : List OpL} (hp : p ≤ k) : Sx k (putP l o p ops) (putP (l.take k) o p ops) := fun v q os h => by
 obtain ⟨rfl, rfl, hn⟩ := put_inv h
 exact .inl ⟨put_ok _ hn, hp⟩
theorem loop_start (hkl : k ≤ l.length) {n : Nat} {lv : Lv} {ops : List OpL} {r : Rs Unit} (h : hdL lv = false) (hr : ∀ v q os, r = .ok v q os → ops.length ≤ os.length) : Sx k r (exP (l.take k) n lv k ops) := fun v q os e => by
 rcases loop_end (l := l) (k := k) n lv ops h with e2 | e2
 ·rw [e2]; exact .inr (.inr ⟨_, rfl, hr _ _ _ e⟩)
 rw [e2]; exact .inr (.inl (.inr rfl))
theorem x_comp (ht : TG l) (hkl : k ≤ l.length) {n fr p : Nat} {ops : List OpL} (hfr : fr ≤ ops.length) (ih : ∀ (lv : Lv) (p : Nat) (ops : List OpL), p ≤ k → ops.length ≤ 40 → Sx k (exP l n lv p ops) (exP (l.take k) n lv p ops)) (hp : p ≤ k) (h40 : ops.length ≤ 40) :
  Sx k (compK l n fr p ops) (compK (l.take k) n fr p ops) := fun v q os h => by
 by_cases hk : p = k
 ·subst hk
  refine .inr (.inr ⟨ops, ?_, ?_⟩)
  ·unfold compK
   rw [isQ_end, if_neg Bool.false_ne_true]
   have : (marksP.find? fun m => isQ (l.take p) p 4 m.1) = none := List.find?_eq_none.2 fun m _ => by rw [isQ_end]; exact Bool.false_ne_true
   rw [this]
  unfold compK at h
  split at h
  ·obtain ⟨_, q1, o1, h1, h2⟩ := bind_inv h
   obtain rfl := must_len _ h1
   obtain ⟨_, q2, o2, h2, h3⟩ := bind_inv h2
   obtain ⟨rfl, rfl, -⟩ := put_inv h2
   split at h3
   ·obtain ⟨-, rfl, -⟩ := put_inv h3; simp
   cases h3; simp
  split at h
  ·cases h; exact Nat.le_refl _
  rename_i m hm
  obtain ⟨_, q1, o1, h1, h2⟩ := bind_inv h
  obtain ⟨c1, c2, c3⟩ := ex_ad ht (isQ_lt (List.find?_some (p := fun m : ByteArray × Int × Bool × Bool => isQ l p 4 m.1) hm)) h40 h1
  obtain ⟨_, q2, o2, h2, h3⟩ := bind_inv h2
  obtain ⟨rfl, rfl, -⟩ := put_inv h2
  have hsw : (if m.2.2.1 = true then swapP o1 fr ops.length else o1).length = o1.length := by
   split
   ·exact swap_len hfr c3
   rfl
  split at h3
  ·obtain ⟨-, rfl, -⟩ := put_inv h3; simp; omega
  cases h3; simp; omega
 have hpk : p < k := by omega
 have hmk : (fun m : ByteArray × Int × Bool × Bool => isQ (l.take k) p 4 m.1) = fun m => isQ l p 4 m.1 := by funext m; exact isQ_take hpk
 unfold compK at h ⊢
 rw [isQ_take hpk, hmk]
 split at h
 ·rename_i his
  rw [if_pos his]
  by_cases hk1 : p + 1 = k
  ·subst hk1
   rw [isQ_end, if_neg Bool.false_ne_true]
   exact .inr (.inl (ng_bind (ng_must hkl)))
  rw [isQ_take (by omega)]
  obtain ⟨v1, q1, o1, h1, h2⟩ := bind_inv h
  obtain ⟨v2, q2, o2, h2, h3⟩ := bind_inv h2
  obtain ⟨rfl, rfl, hn⟩ := put_inv h2
  rcases sn_must hkl [wNULL] (p := if isQ l (p + 1) 1 ⟨#[78, 79, 84]⟩ = true then p + 2 else p + 1) (ops := ops) (by split <;> omega) _ _ _ h1 with ⟨e, hq⟩ | e
  ·rw [e, bind_ok, put_ok _ hn, bind_ok]
   split at h3
   ·rw [if_pos (by assumption)]; exact x_put hq _ _ _ h3
   rw [if_neg (by assumption)]; exact x_ok hq _ _ _ h3
  exact .inr (.inl (ng_bind e))
 rename_i his
 rw [if_neg his]
 split at h
 ·rename_i hm
  cases h; exact .inl ⟨rfl, hp⟩
 rename_i m hm
 obtain ⟨v1, q1, o1, h1, h2⟩ := bind_inv h
 obtain ⟨c1, c2, c3⟩ := ex_ad ht (isQ_lt (List.find?_some (p := fun m : ByteArray × Int × Bool × Bool => isQ l p 4 m.1) hm)) h40 h1
 obtain ⟨v2, q2, o2, h2, h3⟩ := bind_inv h2
 obtain ⟨rfl, rfl, hn⟩ := put_inv h2
 have hsw : ∀ os' : List OpL, ops.length ≤ os'.length → (if m.2.2.1 = true then swapP os' fr ops.length else os').length = os'.length := fun os' h' => by
  split
  ·exact swap_len hfr h'
  rfl
 have hs1 := hsw o1 c3
 rcases ih .sum (p + 1) ops (by omega) h40 _ _ _ h1 with ⟨e, hq⟩ | e | ⟨os', e, hle⟩
 ·rw [e, bind_ok, put_ok _ hn, bind_ok]
  split at h3
  ·rw [if_pos (by assumption)]; exact x_put hq _ _ _ h3
  rw [if_neg (by assumption)]; exact x_ok hq _ _ _ h3
 ·exact .inr (.inl (ng_bind e))
 have hlo : ops.length ≤ os'.length := by
  have ht' : TG (l.take k) := fun t h => ht t (List.mem_of_mem_take h)
  exact (ex_ad ht' (by rw [len_k hkl]; omega) h40 e).2.2
 have hs2 := hsw os' hlo
 rw [e, bind_ok, put_ok _ (by rw [hs2]; rw [hs1] at hn; omega), bind_ok]
 split at h3
 ·obtain ⟨-, rfl, hn3⟩ := put_inv h3
  rw [if_pos (by assumption), put_ok _ (by simp at hn3 ⊢; omega)]
  exact .inr (.inr ⟨_, rfl, by simp; omega⟩)
 cases h3
 rw [if_neg (by assumption)]
 exact .inr (.inr ⟨_, rfl, by simp; omega⟩)

end Go.Proofs.YtjgekbmahhhokaaDoor.Pa

namespace Go.Proofs.YtjgekbmahhhokaaDoor.Pa
open Go.Proofs.Tryd
open Go.RowKit V Pk Go.Proofs.YtjgekbmahhhokaaDoor.Vl Go.Proofs.YtjgekbmahhhokaaDoor.Nm
theorem comp_end {l : List Tk} {k n fr : Nat} {os : List OpL} : compK (l.take k) n fr k os = .ok () k os := by
 unfold compK
 rw [isQ_end, if_neg Bool.false_ne_true]
 have : (marksP.find? fun m => isQ (l.take k) k 4 m.1) = none := List.find?_eq_none.2 fun m _ => by rw [isQ_end]; exact Bool.false_ne_true
 rw [this]
theorem comp_len {l : List Tk} (ht : TG l) {n fr p q : Nat} {ops os : List OpL} {v : Unit} (hfr : fr ≤ ops.length) (h40 : ops.length ≤ 40) (h : compK l n fr p ops = .ok v q os) : ops.length ≤ os.length := by
 unfold compK at h
 split at h
 ·obtain ⟨_, q1, o1, h1, h2⟩ := bind_inv h
  obtain rfl := must_len _ h1
  obtain ⟨_, q2, o2, h2, h3⟩ := bind_inv h2
  obtain ⟨rfl, rfl, -⟩ := put_inv h2
  split at h3
  ·obtain ⟨-, rfl, -⟩ := put_inv h3; simp
  cases h3; simp
 split at h
 ·cases h; exact Nat.le_refl _
 rename_i m hm
 obtain ⟨_, q1, o1, h1, h2⟩ := bind_inv h
 obtain ⟨c1, c2, c3⟩ := ex_ad ht (isQ_lt (List.find?_some (p := fun m : ByteArray × Int × Bool × Bool => isQ l p 4 m.1) hm)) h40 h1
 obtain ⟨_, q2, o2, h2, h3⟩ := bind_inv h2
 obtain ⟨rfl, rfl, -⟩ := put_inv h2
 have hsw : (if m.2.2.1 = true then swapP o1 fr ops.length else o1).length = o1.length := by
  split
  ·exact swap_len hfr c3
  rfl
 split at h3
 ·obtain ⟨-, rfl, -⟩ := put_inv h3; simp; omega
 cases h3; simp; omega
variable {l : List Tk} {k : Nat}
theorem ex_sm (ht : TG l) (hkl : k ≤ l.length) : ∀ (n : Nat) (lv : Lv) (p : Nat) (ops : List OpL), p ≤ k → ops.length ≤ 40 → Sx k (exP l n lv p ops) (exP (l.take k) n lv p ops)
 | 0, lv, p, ops, _, _ => fun v q os h => by unfold exP at h; cases h
 | n + 1, lv, p, ops, hp, h40 => by
  have ih := ex_sm ht hkl n
  by_cases hk : p = k
  ·subst hk
   cases hh : hdL lv with
   | true => exact x_ng (ng_head hkl (n + 1) lv ops hh)
   | false => exact loop_start hkl hh fun v q os e => (ex_ad ht hkl h40 e).2.2
  have hpk : p < k := by omega
  cases lv with
  | prim =>
   rw [prim_eq, prim_eq]
   intro v q os h
   obtain ⟨v1, q1, o1, h1, h2⟩ := bind_inv h
   rcases sn_lit hkl hpk _ _ _ h1 with ⟨e, hq⟩ | e
   ·rw [e, bind_ok]
    have e1 : o1 = ops := by
     have := w_lit ht (ops := ops) (show p ≤ l.length by omega)
     rw [h1] at this; exact this.2.1
    subst e1
    split at h2
    ·rw [if_pos (by assumption)]; exact x_put hq _ _ _ h2
    rename_i hv
    rw [if_neg hv]
    by_cases hqk : q1 = k
    ·subst hqk
     rw [isQ_end, if_neg Bool.false_ne_true]
     exact .inr (.inl (ng_bind (ng_name hkl)))
    rw [isQ_take (by omega)]
    split at h2
    ·rename_i hb
     rw [if_pos hb]
     obtain ⟨v2, q2, o2, h2, h3⟩ := bind_inv h2
     rcases ih .or (q1 + 1) o1 (by omega) h40 _ _ _ h2 with ⟨e, hq2⟩ | e | ⟨os', e, hle⟩
     ·rw [e, bind_ok]
      rcases sn_mark hkl hq2 _ _ _ h3 with h4 | h4
      ·exact .inl h4
      exact .inr (.inl h4)
     ·exact .inr (.inl (ng_bind e))
     rw [e, bind_ok]; exact .inr (.inl (ng_mark hkl))
    rename_i hb
    rw [if_neg hb]
    obtain ⟨v2, q2, o2, h2, h3⟩ := bind_inv h2
    rcases sn_name hkl (show q1 ≤ k by omega) _ _ _ h2 with ⟨e, hq2⟩ | e
    ·rw [e, bind_ok]; exact x_put hq2 _ _ _ h3
    exact .inr (.inl (ng_bind e))
   exact .inr (.inl (ng_bind e))
  | prod => rw [prod_eq, prod_eq]; exact x_two ht hkl rfl ih hp h40
  | prodL =>
   rw [prodL_eq, prodL_eq, isQ_take hpk]; split
   ·exact x_loop ht hkl rfl ih (by omega) h40
   exact x_ok hp
  | sum => rw [sum_eq, sum_eq]; exact x_two ht hkl rfl ih hp h40
  | sumL =>
   rw [sumL_eq, sumL_eq, isQ_take hpk, isQ_take hpk]; split
   ·exact x_loop ht hkl rfl ih (by omega) h40
   split
   ·exact x_loop ht hkl rfl ih (by omega) h40
   exact x_ok hp
  | comp =>
   rw [comp_eq, comp_eq]
   intro v q os h
   obtain ⟨v1, q1, o1, h1, h2⟩ := bind_inv h
   obtain ⟨b1, b2, b3⟩ := ex_ad ht (by omega) h40 h1
   have hlen : o1.length ≤ os.length := comp_len ht b3 b2 h2
   rcases ih .sum p ops hp h40 _ _ _ h1 with ⟨e, hq⟩ | e | ⟨os', e, hle⟩
   ·rw [e, bind_ok]; exact x_comp ht hkl b3 ih hq b2 _ _ _ h2
   ·exact .inr (.inl (ng_bind e))
   rw [e, bind_ok]
   have hc : compK (l.take k) n ops.length k os' = .ok () k os' := comp_end
   rw [hc]; exact .inr (.inr ⟨os', rfl, by omega⟩)
  | not =>
   rw [not_eq, not_eq, isQ_take hpk]; split
   ·intro v q os h
    obtain ⟨v1, q1, o1, h1, h2⟩ := bind_inv h
    obtain ⟨rfl, rfl, hn⟩ := put_inv h2
    obtain ⟨b1, b2, b3⟩ := ex_ad ht (by omega) h40 h1
    rcases ih .not (p + 1) ops (by omega) h40 _ _ _ h1 with ⟨e, hq⟩ | e | ⟨os', e, hle⟩
    ·rw [e, bind_ok]; exact x_put hq _ _ _ h2
    ·exact .inr (.inl (ng_bind e))
    rw [e, bind_ok, put_ok _ (by omega)]; exact .inr (.inr ⟨_, rfl, by simp; omega⟩)
   exact ih .comp p ops hp h40
  | and => rw [and_eq, and_eq]; exact x_two ht hkl rfl ih hp h40
  | andL =>
   rw [andL_eq, andL_eq, isQ_take hpk]; split
   ·exact x_loop ht hkl rfl ih (by omega) h40
   exact x_ok hp
  | or => rw [or_eq, or_eq]; exact x_two ht hkl rfl ih hp h40
  | orL =>
   rw [orL_eq, orL_eq, isQ_take hpk]; split
   ·exact x_loop ht hkl rfl ih (by omega) h40
   exact x_ok hp

theorem exP_up (l : List Tk) {n : Nat} {lv : Lv} {p : Nat} {ops : List OpL} (h : exP l n lv p ops ≠ .stuck) : ∀ d, exP l (n + d) lv p ops = exP l n lv p ops
 | 0 => rfl
 | d + 1 => by
  have e := exP_up l h d
  rw [← e]
  exact exP_mono l (n + d) lv p ops (by rw [e]; exact h)
theorem expr_at (hkl : k ≤ l.length) {p : Nat} (hp : p ≤ k) : exprP (l.take k) p = (exP (l.take k) (12 * l.length + 24) .or p []).bind fun _ p ops => .ok ops p ops := by
 have hl := len_k (l := l) hkl
 unfold exprP
 rw [hl]
 have hns : exP (l.take k) (12 * k + 24) .or p [] ≠ .stuck := exP_ns _ _ _ _ (by rw [hl]; exact hp) (by rw [hl]; simp only [rk]; omega)
 have := exP_up _ hns (12 * l.length - 12 * k)
 rw [show 12 * k + 24 + (12 * l.length - 12 * k) = 12 * l.length + 24 by omega] at this
 rw [this]
theorem sm_expr (ht : TG l) (hkl : k ≤ l.length) {p : Nat} (hp : p ≤ k) : Sm k (exprP l p) (exprP (l.take k) p) := fun v q os h => by
 rw [expr_at hkl hp]
 unfold exprP at h
 obtain ⟨v1, q1, o1, h1, h2⟩ := bind_inv h
 cases h2
 rcases ex_sm ht hkl _ .or p [] hp (Nat.zero_le _) _ _ _ h1 with ⟨e, hq⟩ | e | ⟨os', e, _⟩
 ·rw [e]; exact .inl ⟨rfl, hq⟩
 ·exact .inr (ng_bind e).en
 rw [e]; exact .inr (.inr (.inr ⟨_, _, rfl⟩))
theorem en_where {ops : List OpL} : En k (whereP (l.take k) k ops) := by
 unfold whereP; rw [isQ_end, if_neg Bool.false_ne_true]; exact .inr (.inr ⟨_, _, rfl⟩)
theorem sm_where (ht : TG l) (hkl : k ≤ l.length) {p : Nat} {ops : List OpL} (hp : p ≤ k) : Sm k (whereP l p ops) (whereP (l.take k) p ops) := by
 by_cases hk : p = k
 ·subst hk; exact Sm.en en_where
 unfold whereP; rw [isQ_take (by omega)]; split
 ·exact sm_expr ht hkl (by omega)
 exact (Sn.ok hp).sm
theorem kind_take {p : Nat} (h : p < k) : kindP (l.take k) p = kindP l p := by unfold kindP; rw [isQ_take h, isQ_take h, isQ_take h]
theorem kind_end : kindP (l.take k) k = 0 := by unfold kindP; rw [isQ_end, isQ_end, isQ_end]; rfl
theorem sn_cols (hkl : k ≤ l.length) : ∀ (n : Nat) (out : List ColL) {p : Nat} {ops : List OpL}, p ≤ k → Sn k (colsP l n out p ops) (colsP (l.take k) n out p ops)
 | 0, _, _, _, _ => fun v q os h => by unfold colsP at h; cases h
 | n + 1, out, p, ops, hp => by
  unfold colsP
  split
  ·exact Sn.no
  refine (sn_name hkl hp).bind fun s p1 o1 h1 _ => ?_
  split
  ·exact Sn.no
  by_cases hk : p1 = k
  ·subst hk; rw [kind_end, if_pos rfl]; exact Sn.ng (ng_gv hkl)
  rw [kind_take (by omega)]
  split
  ·exact Sn.no
  by_cases hk1 : p1 + 1 = k
  ·subst hk1
   rw [isQ_end, if_neg Bool.false_ne_true]
   exact Sn.ng (ng_bind (ng_mark hkl))
  rw [isQ_take (by omega)]
  split
  ·exact sn_cols hkl n _ (by omega)
  exact (sn_mark hkl (by omega)).bind fun _ p3 o3 h3 _ => Sn.ok h3
theorem sn_row (hkl : k ≤ l.length) : ∀ (n : Nat) (out : List Vl) {p : Nat} {ops : List OpL}, p ≤ k → Sn k (rowP l n out p ops) (rowP (l.take k) n out p ops)
 | 0, _, _, _, _ => fun v q os h => by unfold rowP at h; cases h
 | n + 1, out, p, ops, hp => by
  unfold rowP
  split
  ·exact Sn.no
  by_cases hk : p = k
  ·subst hk
   rw [lit_end hkl, bind_ok, if_pos rfl]
   exact Sn.ng (ng_gv hkl)
  refine (sn_lit hkl (by omega)).bind fun v p1 o1 h1 _ => ?_
  split
  ·exact Sn.no
  by_cases hk1 : p1 = k
  ·subst hk1
   rw [isQ_end, if_neg Bool.false_ne_true]
   exact Sn.ng (ng_bind (ng_mark hkl))
  rw [isQ_take (by omega)]
  split
  ·exact sn_row hkl n _ (by omega)
  exact (sn_mark hkl (by omega)).bind fun _ p3 o3 h3 _ => Sn.ok h3
theorem sm_names (hkl : k ≤ l.length) : ∀ (n : Nat) (out : List ByteArray) {p : Nat} {ops : List OpL}, p ≤ k → Sm k (namesP l n out p ops) (namesP (l.take k) n out p ops)
 | 0, _, _, _, _ => fun v q os h => by unfold namesP at h; cases h
 | n + 1, out, p, ops, hp => by
  unfold namesP
  split
  ·exact Sn.no.sm
  refine (sn_name hkl hp).bindm fun s p1 o1 h1 _ => ?_
  by_cases hk : p1 = k
  ·subst hk
   rw [isQ_end, if_neg Bool.false_ne_true]
   exact Sm.en (.inr (.inr ⟨_, _, rfl⟩))
  rw [isQ_take (by omega)]
  split
  ·exact sm_names hkl n _ (by omega)
  exact (Sn.ok h1).sm
theorem en_names (hkl : k ≤ l.length) (n : Nat) (out : List ByteArray) {ops : List OpL} : En k (namesP (l.take k) n out k ops) := by
 cases n with
 | zero => right; left; unfold namesP; rfl
 | succ n =>
  unfold namesP; split
  ·exact (ng_gv hkl).en
  exact (ng_bind (ng_name hkl)).en
theorem sm_head (hkl : k ≤ l.length) {p : Nat} {ops : List OpL} (hp : p ≤ k) : Sm k (headP l p ops) (headP (l.take k) p ops) := by
 by_cases hk : p = k
 ·subst hk
  unfold headP
  rw [isQ_end, isQ_end, if_neg Bool.false_ne_true, if_neg Bool.false_ne_true]
  exact Sm.en (en_bind (en_names hkl 8 []) fun v os => .inr (.inr ⟨_, _, rfl⟩))
 unfold headP
 rw [isQ_take (by omega), isQ_take (by omega)]
 split
 ·exact (Sn.ok (by omega)).sm
 split
 ·exact ((sn_mark hkl (by omega)).bind fun _ _ _ h1 _ => (sn_mark hkl h1).bind fun _ _ _ h2 _ => (sn_mark hkl h2).bind fun _ _ _ h3 _ => Sn.ok h3).sm
 exact (sm_names hkl 8 [] hp).bind (fun ns _ _ h1 _ => (Sn.ok h1).sm) fun v os => .inr (.inr ⟨_, _, rfl⟩)
theorem en_lim {s : StL} {ops : List OpL} : En k (limP (l.take k) s k ops) := by
 unfold limP; rw [isQ_end, if_neg Bool.false_ne_true]; exact .inr (.inr ⟨_, _, rfl⟩)
theorem sm_lim (hkl : k ≤ l.length) {s : StL} {p : Nat} {ops : List OpL} (hp : p ≤ k) : Sm k (limP l s p ops) (limP (l.take k) s p ops) := by
 by_cases hk : p = k
 ·subst hk; exact Sm.en en_lim
 unfold limP; rw [isQ_take (by omega)]
 split
 ·split
  ·rename_i h2
   by_cases hk1 : p + 1 = k
   ·rw [dif_neg (by rw [len_k hkl]; omega)]
    subst hk1; exact Sm.en (ng_gv hkl).en
   rw [dif_pos ⟨by rw [len_k hkl]; omega, by rw [getD_take hkl (by omega)]; exact h2.2⟩, List.getElem_take]
   exact (Sn.ok (by omega)).sm
  exact Sn.no.sm
 exact (Sn.ok hp).sm
theorem en_tail {s : StL} {ops : List OpL} : En k (tailP (l.take k) s k ops) := by
 unfold tailP ordP; rw [isQ_end, if_neg Bool.false_ne_true, bind_ok]; exact en_lim
theorem sm_tail (hkl : k ≤ l.length) {s : StL} {p : Nat} {ops : List OpL} (hp : p ≤ k) : Sm k (tailP l s p ops) (tailP (l.take k) s p ops) := by
 by_cases hk : p = k
 ·subst hk; exact Sm.en en_tail
 unfold tailP
 refine Sm.bind ?_ (fun s q os hq _ => sm_lim hkl hq) fun s os => en_lim
 unfold ordP; rw [isQ_take (by omega)]
 split
 ·refine (sn_must hkl _ (by omega)).bindm fun _ p1 o1 h1 _ => (sn_name hkl h1).bindm fun n p2 o2 h2 _ => ?_
  by_cases hk2 : p2 = k
  ·subst hk2
   rw [isQ_end, if_neg Bool.false_ne_true]
   exact Sm.en (.inr (.inr ⟨_, _, rfl⟩))
  rw [isQ_take (by omega)]
  refine (Sn.ok ?_).sm
  split <;> omega
 exact (Sn.ok hp).sm
theorem en_pickK (hkl : k ≤ l.length) {h : List ByteArray × Bool} {ops : List OpL} : En k (pickK (l.take k) h k ops) := by
 unfold pickK; exact (ng_bind (ng_must hkl)).en
theorem st_sm (ht : TG l) (hkl : k ≤ l.length) : Sm k (stP l 0 []) (stP (l.take k) 0 []) := by
 by_cases hk : (0 : Nat) = k
 ·subst hk
  refine Sm.en (Ng.en ?_)
  unfold stP
  simp only [isQ_end, if_neg Bool.false_ne_true]
  exact ng_gv hkl
 have hk1 : 0 < k := by omega
 unfold stP
 simp only [isQ_take hk1]
 by_cases c0 : isQ l 0 1 ⟨#[67, 82, 69, 65, 84, 69]⟩ = true
 ·rw [if_pos c0, if_pos c0]
  exact ((sn_must hkl _ hk1).bind fun _ _ _ h1 _ => (sn_name hkl h1).bind fun t _ _ h2 _ => Sn.bind (by unfold colsB; exact (sn_mark hkl h2).bind fun _ _ _ h3 _ => sn_cols hkl 8 [] h3) fun c _ _ h4 _ => Sn.ok h4).sm
 rw [if_neg c0, if_neg c0]
 by_cases c1 : isQ l 0 1 ⟨#[68, 82, 79, 80]⟩ = true
 ·rw [if_pos c1, if_pos c1]
  exact ((sn_must hkl _ hk1).bind fun _ _ _ h1 _ => (sn_name hkl h1).bind fun t _ _ h2 _ => Sn.ok h2).sm
 rw [if_neg c1, if_neg c1]
 by_cases c2 : isQ l 0 1 ⟨#[73, 78, 83, 69, 82, 84]⟩ = true
 ·rw [if_pos c2, if_pos c2]
  exact ((sn_must hkl _ hk1).bind fun _ _ _ h1 _ => (sn_name hkl h1).bind fun t _ _ h2 _ => (sn_must hkl _ h2).bind fun _ _ _ h3 _ => Sn.bind (by unfold rowB; exact (sn_mark hkl h3).bind fun _ _ _ h4 _ => sn_row hkl 8 [] h4) fun r _ _ h5 _ => Sn.ok h5).sm
 rw [if_neg c2, if_neg c2]
 by_cases c3 : isQ l 0 1 ⟨#[83, 69, 76, 69, 67, 84]⟩ = true
 ·rw [if_pos c3, if_pos c3]
  unfold pickP
  refine (sm_head hkl hk1).bind (fun h _ _ h1 _ => ?_) fun h os => en_pickK hkl
  unfold pickK
  exact (sn_must hkl _ h1).bindm fun _ _ _ h2 _ => (sn_name hkl h2).bindm fun t _ _ h3 _ => (sm_where ht hkl h3).bind (fun w _ _ h4 _ => sm_tail hkl h4) fun w os => en_tail
 rw [if_neg c3, if_neg c3]
 by_cases c4 : isQ l 0 1 ⟨#[85, 80, 68, 65, 84, 69]⟩ = true
 ·rw [if_pos c4, if_pos c4]
  exact (sn_name hkl hk1).bindm fun t _ _ h1 _ => (sn_must hkl _ h1).bindm fun _ _ _ h2 _ => (sn_name hkl h2).bindm fun c _ _ h3 _ => (sn_mark hkl h3).bindm fun _ _ _ h4 _ => (sm_expr ht hkl h4).bind (fun e _ _ h5 _ => (sm_where ht hkl h5).bind (fun w _ _ h6 _ => (Sn.ok h6).sm) fun w os => .inr (.inr ⟨_, _, rfl⟩)) fun e os => en_bind en_where fun w os => .inr (.inr ⟨_, _, rfl⟩)
 rw [if_neg c4, if_neg c4]
 by_cases c5 : isQ l 0 1 ⟨#[68, 69, 76, 69, 84, 69]⟩ = true
 ·rw [if_pos c5, if_pos c5]
  exact (sn_must hkl _ hk1).bindm fun _ _ _ h1 _ => (sn_name hkl h1).bindm fun t _ _ h2 _ => (sm_where ht hkl h2).bind (fun w _ _ h3 _ => (Sn.ok h3).sm) fun w os => .inr (.inr ⟨_, _, rfl⟩)
 rw [if_neg c5, if_neg c5]
 by_cases c6 : isQ l 0 1 ⟨#[66, 69, 71, 73, 78]⟩ = true
 ·rw [if_pos c6, if_pos c6]
  exact (Sn.ok hk1).sm
 rw [if_neg c6, if_neg c6]
 by_cases c7 : isQ l 0 1 ⟨#[67, 79, 77, 77, 73, 84]⟩ = true
 ·rw [if_pos c7, if_pos c7]
  exact (Sn.ok hk1).sm
 rw [if_neg c7, if_neg c7]
 by_cases c8 : isQ l 0 1 ⟨#[82, 79, 76, 76, 66, 65, 67, 75]⟩ = true
 ·rw [if_pos c8, if_pos c8]
  exact (Sn.ok hk1).sm
 rw [if_neg c8, if_neg c8]; exact Sn.no.sm
theorem parse_torn {s : StL} (hf : FinS s) (h1 : 1 ≤ s.kind) (h9 : s.kind ≤ 9) (hl : s.limit ≤ 9223372036854775807) (hc : checkS s = 0) (hn : (showS s).length ≤ 100) {k : Nat} (hk : k < (showS s).length) : (∃ s', parseF ((showS s).take k) = (s', 0, 0) ∧ 1 ≤ s'.kind ∧ s'.kind ≤ 9) ∨ parseF ((showS s).take k) = (stZ, k, 7) := by
 obtain ⟨q, os, e1, e2⟩ := st_of (l := showS s) hf h1 h9 hc (.inl rfl) (by simp)
 have hq : (showS s).length ≤ q := by
  have := congrArg List.length e2
  simp at this; omega
 have gs := gts_show hf h1 h9 hl hc
 have gk : GTs ((showS s).take k) := fun t h => gs t (List.mem_of_mem_take h)
 have hlk := len_k (l := showS s) (k := k) (by omega)
 rcases st_sm (k := k) gs (by omega) _ _ _ e1 with ⟨_, h2⟩ | h | h | ⟨v, os', h⟩
 ·omega
 ·exact .inr (parse_no (by rw [hlk]; omega) (bad_gts gk) h)
 ·exact absurd h ns_st
 left
 have hg := st_w (l := (showS s).take k) gk
 rw [h] at hg
 exact ⟨v, parse_ok (by rw [hlk]; omega) (bad_gts gk) h (by rw [hlk]; omega), hg.2.2.1, hg.2.2.2.1⟩

end Go.Proofs.YtjgekbmahhhokaaDoor.Pa

namespace Go.Proofs.YtjgekbmahhhokaaDoor.Pa
open Go.Proofs.Tryd
open Go.RowKit V Pk Go.Proofs.YtjgekbmahhhokaaDoor.Vl Go.Proofs.YtjgekbmahhhokaaDoor.Nm
section
variable {P : Program} {C : Ctx} {G : List (Nat × List Value)} {Q : Exit → St → Prop} {x : St} {o : Oper}
theorem still_islice3 {t e : TypeId} {len sz n : Nat} {cs : List D} {k2 k3 : IntKind} {y hi mx : Operand} (ho : o.op = .slice t y none (some hi) (some mx)) (hy : opd x y = .list sz cs len) (hhi : opd x hi = .v (.int k2 n)) (hmx : opd x mx = .v (.int k3 n))
  (hu : ∀ w, (underlying t).run P w = .ok (.slice e) w) (hs : ∀ w, (sizeOf e).run P w = .ok sz w) (hn : n < len) : Still P G x o .none (.list sz (cs.take (n * sz)) n) := fun C a w _ h => by
 have hr := h.eval y
 rw [hy] at hr
 generalize hg : a.eval y = u at hr
 cases hr with
 | void _ ad cap => omega
 | list _ _ _ b o2 cap g hl q1 q2 hb hL hc hr =>
  have hle : n * sz ≤ cs.length := by rw [hl]; exact Nat.mul_le_mul_right _ (by omega)
  have hlen : (cs.take (n * sz)).length = n * sz := by rw [List.length_take]; omega
  have b3 := fun w => bounds3 (P := P) (k2 := k2) (k3 := k3) len cap n (by omega) w
  refine ⟨.slice (some ⟨b, o2, none⟩) n n, .list sz _ _ b o2 n g hlen (Nat.le_refl _) (by omega) hb hL (fun i hi => hc i (by omega)) (fun i hi => ?_), fun w' _ => ?_⟩
  ·simp only [List.getElem_take]; exact hr _ _
  unfold execOp
  simp only [ho, hg, h.flat hhi, h.flat hmx, Instr.sliceAt, Instr.slice, hu, Sem.run_bind, Result.andThen_ok, Option.map_some, Option.map_none, b3, hs, Sem.run_pure]
  by_cases hc : n = 0
  ·rw [if_pos hc]; simp
  rw [if_neg hc]; simp [Addr.add]
end
theorem take_cT : ∀ (ls : List Tk) (k : Nat), (ls.take k).flatMap cT = (ls.flatMap cT).take (k * 3)
 | [], k => by simp
 | a :: r, 0 => by simp
 | a :: r, k + 1 => by
  rw [List.take_succ_cons, List.flatMap_cons, List.flatMap_cons, take_cT r k, show (k + 1) * 3 = (cT a).length + k * 3 by rw [cT_len]; omega, List.take_length_add_append]
variable {G : List (Nat × List Value)}
theorem torn_facts (hm : (0, marksC) ∈ G) (hw : (2, wordsC) ∈ G) (hk_ : (5, cmpC) ∈ G) (hty : (1, typesC) ∈ G) {s : StL} (hf : FinS s) (g1 : 1 ≤ s.kind) (g6 : s.kind ≤ 6) (gl : s.limit ≤ 9223372036854775807) (gc : checkS s = 0) : ∃ (ls : List Tk) (e : Int), VP Tryd.prog G 16 [.agg (cSt s)] (.tup [.list 3 (ls.flatMap cT) ls.length, .v (.int .i64 e)]) ∧ (e = 10 ∨ e = 0 ∧ 0 < ls.length ∧ ls.length ≤ 100 ∧ ∀ k, k < ls.length → ∃ (s2 : StL) (p : Nat) (f : Int), VP Tryd.prog G 13 [.list 3 ((ls.flatMap cT).take (k * 3)) k] (.tup [.agg (cSt s2), .v (.int .i64 ((p : Nat) : Int)), .v (.int .i64 f)]) ∧ ((f = 0 ∧ p = 0 ∧ 0 < s2.kind) ∨ (f = 7 ∧ p = k ∧ s2.kind = 0))) := by
 have hsv := Show_vp (G := G) hm hw hty s hf
 rw [show_err] at hsv
 refine ⟨_, _, hsv, ?_⟩
 rcases good_err g1 g6 gc with ⟨h0, _⟩ | ⟨h0, h1⟩
 ·exact .inl h0
 rw [show_ok h0]
 refine .inr ⟨h0, show_pos, h1, fun k hk => ?_⟩
 have gs := gts_show hf g1 (by omega) gl gc
 have h2 := parse_vc (G := G) hm hw hk_ hty ((showS s).take k) (gts_hs fun t ht => gs t (List.mem_of_mem_take ht))
 rw [take_cT, len_k (by omega)] at h2
 rcases parse_torn hf g1 (by omega) gl gc h1 hk with ⟨s2, e, k1, k9⟩ | e
 ·rw [e] at h2; exact ⟨s2, 0, 0, h2, .inl ⟨rfl, rfl, by omega⟩⟩
 rw [e] at h2; exact ⟨stZ, k, 7, h2, .inr ⟨rfl, rfl, rfl⟩⟩

theorem torn_vp (hm : (0, marksC) ∈ G) (hw : (2, wordsC) ∈ G) (hk_ : (5, cmpC) ∈ G) (hty : (1, typesC) ∈ G) (k t a b : Int) (row : List Vl) (x1 x2 : Int) (x3 : ByteArray) (ts1 : List Tw) (y1 y2 : Int) (y3 : ByteArray) (ts2 : List Tw) (bare : Bool) (hk1 : -9223372036854775808 ≤ k) (hk2 : k ≤ 9223372036854775807) (ht1 : -9223372036854775808 ≤ t) (ht2 : t ≤ 9223372036854775807) (ha1 : -9223372036854775808 ≤ a) (ha2 : a ≤ 9223372036854775807) (hb1 : -9223372036854775808 ≤ b) (hb2 : b ≤ 9223372036854775807) (hrow : ∀ v ∈ row, v.s.size ≤ maxLen) (hto : (Tw.mk x1 x2 x3 ts1).Ok) (hwh : (Tw.mk y1 y2 y3 ts2).Ok) (at_ : Int) (ha1_ : -9223372036854775808 ≤ at_) (ha2_ : at_ ≤ 9223372036854775807) : VP Tryd.prog G 6 [.agg [.v (.int .i64 k), .v (.int .i64 t), .v (.int .i64 a), .v (.int .i64 b), .list 3 (row.flatMap cV) row.length, .v (.int .i64 x1), .v (.int .i64 x2), .v (.string x3), .list 4 (Tw.css ts1) ts1.length, .v (.int .i64 y1), .v (.int .i64 y2), .v (.string y3), .list 4 (Tw.css ts2) ts2.length, .v (.bool bare)], .v (.int .i64 at_)] (.v (.bool true)) := by
 refine VC.body func6 rfl ntmps6 le_ fun X0 w0 S00 => ?_
 refine sr_ ?_
 refine OD.box (ds := [_, _, _, _, _, _, _, _, _, _, _, _, _, _]) wp_ rfl rfl ot rfl rfl (fun b2 => ?_)
 refine om_ ?_
 refine on_ [(1, _), (2, _)] [⟨b2, 47, 14, [_, _, _, _, _, _, _, _, _, _, _, _, _, _]⟩] ?_
 refine sr_ ?_
 refine os_ (lab_ 0 [_, _, _, _, _, _, _, _, _, _, _, _, _, _]) ?_
 refine OD.call wp_ rfl rfl rfl call15 (statement_vc k t a b row x1 x2 x3 ts1 y1 y2 y3 ts2 bare hk1 hk2 ht1 ht2 ha1 ha2 hb1 hb2 hrow hto hwh) ⟨ot, trivial⟩ (perm_none _) ?_; rintro _ _ ⟨s, rfl, rfl, hf, g1, g6, gl, gc⟩
 obtain ⟨ls, e, hsv, hcase⟩ := torn_facts (G := G) hm hw hk_ hty hf g1 g6 gl gc
 clear hf g1 g6 gl gc
 unfold cSt at hsv hcase ⊢
 refine oc_ call16 (hsv) ?_
 refine om_ ?_
 refine os_ ex_ ?_
 refine os_ ex_ ?_
 refine om_ ?_
 refine om_ ?_
 refine on_ [(1, _), (5, _), (6, _)] [⟨b2, 47, 14, [_, _, _, _, _, _, _, _, _, _, _, _, _, _]⟩] ?_
 refine CD.seq ?_
 refine sr_ ?_
 refine om_ ?_
 refine os_ bn_ ?_
 refine om_ ?_
 refine OD.split (t := 19) lk (fun hg19 => ?_) (fun hg19 => ?_)
 ·have hg19' := hg19; (try simp only [V.cnd, ne_eq] at hg19')
  refine sk_ ?_
  refine sk_ ?_
  refine sk_ ?_
  refine os_ pkT_ ?_
  refine nm_ [1, 5, 6, 23] ?_
  refine CD.condT ot (by first | rfl | assumption) ?_
  have he : e = 10 := by first | exact hcase.resolve_right (fun h => by (have h9 := hg19; simp at h9; omega)) | exact hcase.resolve_right (fun h => by (have h9 := hc0; have h8 := h.2.1; simp at h9; rw [h9] at h8; simp at h8))
  refine sr_ ?_
  refine om_ ?_
  refine os_ bn_ ?_
  refine om_ ?_
  refine nm_ [4] ?_
  refine CD.ret ?_
  refine r1_ ?_
  first | exact ⟨rfl, rfl⟩ | (refine ⟨vb ?_, rfl⟩; simp [*]; done) | (refine ⟨vb ?_, rfl⟩; simp; omega)
 have hg19' := hg19; (try simp only [V.cnd, ne_eq] at hg19')
 refine om_ ?_
 refine os_ ln_ ?_
 refine os_ bn_ ?_
 refine os_ pkF_ ?_
 refine nm_ [1, 5, 6, 23] ?_
 refine CD.cond ot (fun hc0 => ?_) (fun hc0 => ?_)
 ·have hc0' := hc0
  (try simp only [V.cnd, ne_eq] at hc0')
  have he : e = 10 := by first | exact hcase.resolve_right (fun h => by (have h9 := hg19; simp at h9; omega)) | exact hcase.resolve_right (fun h => by (have h9 := hc0; have h8 := h.2.1; simp at h9; rw [h9] at h8; simp at h8))
  refine sr_ ?_
  refine om_ ?_
  refine os_ bn_ ?_
  refine om_ ?_
  refine nm_ [4] ?_
  refine CD.ret ?_
  refine r1_ ?_
  first | exact ⟨rfl, rfl⟩ | (refine ⟨vb ?_, rfl⟩; simp [*]; done) | (refine ⟨vb ?_, rfl⟩; simp; omega)
 have hc0' := hc0
 (try simp only [V.cnd, ne_eq] at hc0')
 have he : e = 0 := by (have h9 := hg19; simp at h9; omega)
 obtain ⟨-, hlp, hl1, hk⟩ := hcase.resolve_left (by omega)
 subst he
 have hpb := pickedF_bd at_ (show (1 : Int) ≤ ((ls.length : Nat) : Int) by omega)
 have hpv := picked_vp G at_ ((ls.length : Nat) : Int) ha1_ ha2_ (by omega)
 generalize pickedF at_ ((ls.length : Nat) : Int) = kk at hpb hpv
 obtain ⟨kn, rfl⟩ := Int.eq_ofNat_of_zero_le hpb.1
 have hkn : kn < ls.length := by omega
 obtain ⟨s2, p2, f2, hP, hres⟩ := hk kn hkn
 refine CD.skip ?_
 refine sr_ ?_
 refine om_ ?_
 refine om_ ?_
 refine os_ ln_ ?_
 refine oc_ call11 (hpv) ?_
 refine om_ ?_
 refine on_ [(5, _), (7, _)] [⟨b2, 47, 14, [_, _, _, _, _, _, _, _, _, _, _, _, _, _]⟩] ?_
 refine sr_ ?_
 refine om_ ?_
 refine om_ ?_
 refine om_ ?_
 refine os_ (still_islice3 rfl ot ot ot runUnderlying26 sizeOf24 hkn) ?_
 refine oc_ call13 (hP) ?_
 refine om_ ?_
 refine os_ ex_ ?_
 refine os_ ex_ ?_
 refine os_ ex_ ?_
 refine OD.alloc (ds := [_, _, _, _, _, _, _, _, _, _, _, _]) wp_ rfl rfl zeroValue32 rfl (fun b8 => ?_)
 refine ot_ 0 [_, _, _, _, _, _, _, _, _, _, _, _] sizeOf32 ?_
 refine om_ ?_
 refine om_ ?_
 refine on_ [(7, _), (8, _), (9, _), (10, _)] [⟨b8, 32, 12, [_, _, _, _, _, _, _, _, _, _, _, _]⟩, ⟨b2, 47, 14, [_, _, _, _, _, _, _, _, _, _, _, _, _, _]⟩] ?_
 refine CD.seq ?_
 refine sr_ ?_
 refine om_ ?_
 refine os_ bn_ ?_
 refine nm_ [7, 8, 9, 10, 40] ?_
 refine CD.cond ot (fun hc1 => ?_) (fun hc1 => ?_)
 ·have hc1' := hc1
  (try simp only [V.cnd, ne_eq] at hc1')
  obtain ⟨hf2, hp2, hk2⟩ := hres.resolve_right (fun h => by (have h9 := hc1; have h8 := h.1; simp at h9; omega))
  subst hp2
  refine sr_ ?_
  refine om_ ?_
  refine os_ bn_ ?_
  refine om_ ?_
  refine OD.split (t := 43) lk (fun hg43 => ?_) (fun hg43 => ?_)
  ·have hg43' := hg43; (try simp only [V.cnd, ne_eq] at hg43')
   refine os_ (fa_ 0) ?_
   refine os_ (lb_ 0) ?_
   refine os_ bn_ ?_
   refine os_ pkT_ ?_
   refine om_ ?_
   refine nm_ [4] ?_
   refine CD.ret ?_
   refine r1_ ?_
   first | exact ⟨rfl, rfl⟩ | (refine ⟨vb ?_, rfl⟩; simp [*]; done) | (refine ⟨vb ?_, rfl⟩; simp; omega)
  exact absurd hg43 (by simp)
 have hc1' := hc1
 (try simp only [V.cnd, ne_eq] at hc1')
 obtain ⟨hf2, hp2, hk2⟩ := hres.resolve_left (fun h => by (have h9 := hc1; have h8 := h.1; simp at h9; omega))
 subst hp2
 refine CD.skip ?_
 refine sr_ ?_
 refine om_ ?_
 refine os_ bn_ ?_
 refine om_ ?_
 refine OD.split (t := 50) lk (fun hg50 => ?_) (fun hg50 => ?_)
 ·have hg50' := hg50; (try simp only [V.cnd, ne_eq] at hg50')
  refine om_ ?_
  refine om_ ?_
  refine os_ bn_ ?_
  refine os_ pkT_ ?_
  refine om_ ?_
  refine OD.split (t := 55) lk (fun hg55 => ?_) (fun hg55 => ?_)
  ·have hg55' := hg55; (try simp only [V.cnd, ne_eq] at hg55')
   refine os_ (fa_ 0) ?_
   refine os_ (lb_ 0) ?_
   refine os_ bn_ ?_
   refine os_ pkT_ ?_
   refine om_ ?_
   refine nm_ [4] ?_
   refine CD.ret ?_
   refine r1_ ?_
   first | exact ⟨rfl, rfl⟩ | (refine ⟨vb ?_, rfl⟩; simp [*]; done) | (refine ⟨vb ?_, rfl⟩; simp; omega)
  exact absurd hg55 (by simp)
 exact absurd hg50 (by simp [hf2])

theorem walkParseTorn (p : Ph) (v : Value) (ok : p.Ok) (at_ : Int) (wa : (Lit.int .i64 at_).wf = true) (w : World) (h1 : MarksTab w) (h2 : WordsTab w) (h3 : TypesTab w) (h4 : CmpTab w) (hv : Rep w (fun _ => False) (.agg p.cs) v) : Calls Tryd.prog 6 #[v, .int .i64 at_] w fun e w' => e = .returned (.bool true) ∧ Below w.heap.size w w' := by
 obtain ⟨k, t, a, b, row, ⟨x1, x2, x3, ts1⟩, ⟨y1, y2, y3, ts2⟩, bare⟩ := p
 simp only [Ph.cs, Tw.cs, List.cons_append, List.nil_append] at hv
 exact (torn_vp (G := TGP) tp1 tp2 tp4 tp3 k t a b row x1 x2 x3 ts1 y1 y2 y3 ts2 bare ok.k.1 ok.k.2 ok.t.1 ok.t.2 ok.a.1 ok.a.2 ok.b.1 ok.b.2 ok.row ok.to ok.wh at_ (wf_bd wa).1 (wf_bd wa).2).runL (tgpx h1 h2 h3 h4) (vs := [v, _]) (RepL.cons hv (RepL.vs w _ [_]))

end Go.Proofs.YtjgekbmahhhokaaDoor.Pa
