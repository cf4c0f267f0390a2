/-
  What the proof of ParseLists leans on, part 4 of 4: walks of the program's functions at the level of values, and plain facts of what they compute.
-/
import Derived.Test.YtjgekbmahhhokaaDoorPParseLists3
namespace Go.Proofs.YtjgekbmahhhokaaDoor.Pa
open Go.RowKit V Pk Go.Proofs.YtjgekbmahhhokaaDoor.Vl Go.Proofs.YtjgekbmahhhokaaDoor.Nm
set_option linter.unusedVariables false
set_option linter.unusedSimpArgs false

variable {G : List (Nat × List Value)}
theorem bad_at {l : List Tk} {i : Nat} (h : i < l.length) (hq : badTk l 0 = badTk (l.drop i) i) (hc : checkT l[i] ≠ 0) : badTk l 0 = some (i, checkT l[i]) := by
 rw [hq, List.drop_eq_getElem_cons h, badTk, if_neg hc]
theorem bad_on {l : List Tk} {i : Nat} (h : i < l.length) (hq : badTk l 0 = badTk (l.drop i) i) (hc : checkT l[i] = 0) : badTk l 0 = badTk (l.drop (i + 1)) (i + 1) := by
 rw [hq, List.drop_eq_getElem_cons h, badTk, if_pos hc]
theorem bad_none : ∀ {l : List Tk} {i : Nat}, badTk l i = none → ∀ t ∈ l, checkT t = 0
 | [], _, _, t, h => by cases h
 | a :: r, i, h, t, ht => by
  unfold badTk at h
  split at h
  ·rename_i hc
   rcases List.mem_cons.1 ht with rfl | ht
   ·exact hc
   exact bad_none h t ht
  cases h
theorem num_pos {t : Tk} (h : checkT t = 0) (hk : t.k = 2) : 0 ≤ t.n := by
 unfold checkT at h
 rw [if_neg (by omega), if_pos hk] at h
 split at h
 ·cases h
 omega
theorem parse_big {l : List Tk} (h : l.length > 100) : parseF l = (stZ, 0, 10) := by unfold parseF; rw [if_pos h]
theorem parse_bad {l : List Tk} {i : Nat} {e : Int} (h : l.length ≤ 100) (hb : badTk l 0 = some (i, e)) : parseF l = (stZ, i, e) := by unfold parseF; rw [if_neg (by omega), hb]
theorem parse_no {l : List Tk} {p : Nat} {e : Int} (h : l.length ≤ 100) (hb : badTk l 0 = none) (hs : stP l 0 [] = .no p e) : parseF l = (stZ, p, e) := by unfold parseF; rw [if_neg (by omega), hb, hs]; rfl
theorem parse_ok {l : List Tk} {s : StL} {p : Nat} {os : List OpL} (h : l.length ≤ 100) (hb : badTk l 0 = none) (hs : stP l 0 [] = .ok s p os) (hp : ¬ p < l.length) : parseF l = (s, 0, 0) := by
 unfold parseF; rw [if_neg (by omega), hb, hs]; simp only [Rs.bind, if_neg hp]
theorem parse_more {l : List Tk} {s : StL} {p : Nat} {os : List OpL} (h : l.length ≤ 100) (hb : badTk l 0 = none) (hs : stP l 0 [] = .ok s p os) (hp : p < l.length) : parseF l = (stZ, p, if l.length ≤ p then 7 else 6) := by
 unfold parseF; rw [if_neg (by omega), hb, hs]; simp only [Rs.bind, if_pos hp, gv]
def dvP (r : StL × Nat × Int) : D := .tup [.agg (cSt r.1), .v (.int .i64 ((r.2.1 : Nat) : Int)), .v (.int .i64 r.2.2)]
theorem recoverD_ret (c0 : Frame) (cs : List Frame) (h : c0.mode = .returning) : (recoverD (c0 :: cs) = some (.nilIface, { c0 with mode := .returning } :: cs)) ∨ (recoverD (c0 :: cs) = none ∧ Value.nilIface = .nilIface ∧ FrameMode.returning = .returning) := .inr ⟨by simp [recoverD, h], rfl, rfl⟩
theorem recoverD_pan (v : Value) (c0 : Frame) (cs : List Frame) (h : c0.mode = .panicking [{ v := v, recovered := false }]) : (recoverD (c0 :: cs) = some (v, { c0 with mode := .panicking [{ v := v, recovered := true }] } :: cs)) ∨ (recoverD (c0 :: cs) = none ∧ v = .nilIface ∧ FrameMode.panicking [{ v := v, recovered := true }] = .panicking [{ v := v, recovered := false }]) := .inl (by simp [recoverD, h])

set_option maxHeartbeats 4000000 in
set_option maxRecDepth 100000 in
theorem cl_ret (b2 b3 b4 : Nat) (S : List Blk) : VDf Tryd.prog G 24 [.v (.pointer (some ⟨b2, 0, none⟩)), .v (.pointer (some ⟨b3, 0, none⟩)), .v (.pointer (some ⟨b4, 0, none⟩))] S .returning .returning (fun S' => S' = S) := by
 refine VDf.recover (v := .nilIface) Tryd.func24 rfl Tryd.ntmps24 Tryd.results24 le_ rfl rfl rfl rfl rfl rfl (by decide) (fun c0 cs h => recoverD_ret c0 cs h) fun X0 w0 => ?_
 refine sr_ ?_
 refine om_ ?_
 refine os_ (still_errNo rfl ot Tryd.underlying20) ?_
 refine OD.wk (Wk.as_ (n := 15) (l' := [(0, _), (1, _), (2, _), (3, _), (7, _)]) (S' := S) rfl rfl sl_) ?_
 refine OD.nil ?_
 refine CD.cond ot (fun hc0 => ?_) (fun hc0 => ?_)
 ·exact absurd hc0 (by decide)
 refine CD.skip ?_
 exact ⟨rfl, rfl⟩

theorem places32_Pbc : ∀ w, ((#[{ name := "Kind", type := 3, offset := 0, embedded := false, tag := "", pkgPath := "", byteOffset := 0 }, { name := "Table", type := 9, offset := 1, embedded := false, tag := "", pkgPath := "", byteOffset := 8 }, { name := "Cols", type := 27, offset := 2, embedded := false, tag := "", pkgPath := "", byteOffset := 24 }, { name := "Row", type := 28, offset := 3, embedded := false, tag := "", pkgPath := "", byteOffset := 48 }, { name := "Names", type := 29, offset := 4, embedded := false, tag := "", pkgPath := "", byteOffset := 72 }, { name := "Count", type := 4, offset := 5, embedded := false, tag := "", pkgPath := "", byteOffset := 96 }, { name := "Where", type := 30, offset := 6, embedded := false, tag := "", pkgPath := "", byteOffset := 104 }, { name := "Order", type := 9, offset := 7, embedded := false, tag := "", pkgPath := "", byteOffset := 128 }, { name := "Down", type := 4, offset := 8, embedded := false, tag := "", pkgPath := "", byteOffset := 144 }, { name := "Limit", type := 3, offset := 9, embedded := false, tag := "", pkgPath := "", byteOffset := 152 }, { name := "Set", type := 9, offset := 10, embedded := false, tag := "", pkgPath := "", byteOffset := 160 }, { name := "To", type := 30, offset := 11, embedded := false, tag := "", pkgPath := "", byteOffset := 176 }] : Array Field).mapM fun f => do pure (f.offset, ← sizeOf f.type) : Sem (Array (Nat × Nat))).run Tryd.prog w = .ok #[(0, 1), (1, 1), (2, 1), (3, 1), (4, 1), (5, 1), (6, 1), (7, 1), (8, 1), (9, 1), (10, 1), (11, 1)] w := fun w => by simp [Tryd.sizeOf27, Tryd.sizeOf28, Tryd.sizeOf29, Tryd.sizeOf3, Tryd.sizeOf30, Tryd.sizeOf4, Tryd.sizeOf9]

set_option maxHeartbeats 4000000 in
set_option maxRecDepth 100000 in
theorem cl_pan0 (k2 k3 k4 p : Nat) (e : Int) (c4 c3 : D) (cs : List D) (hcs : cs.length = 12) : VDf Tryd.prog G 24 [.v (.pointer (some ⟨k2, 0, none⟩)), .v (.pointer (some ⟨k3, 0, none⟩)), .v (.pointer (some ⟨k4, 0, none⟩))] [⟨k4, 33, 1, [c4]⟩, ⟨k3, 3, 1, [c3]⟩, ⟨k2, 32, 12, cs⟩] (.panicking (wrC p e)) (.panicking [{ v := .iface 67 (.agg #[.int .i64 (p : Nat), .int .i64 e]), recovered := true }]) (fun S' => ∃ B, S' = [B, ⟨k4, 33, 1, [.v (.int .i64 e)]⟩, ⟨k3, 3, 1, [.v (.int .i64 ((p : Nat) : Int))]⟩, ⟨k2, 32, 12, [.v (.int .i64 0), .v (.string ⟨#[]⟩), .v (.slice none 0 0), .v (.slice none 0 0), .v (.slice none 0 0), .v (.bool false), .v (.slice none 0 0), .v (.string ⟨#[]⟩), .v (.bool false), .v (.int .i64 0), .v (.string ⟨#[]⟩), .v (.slice none 0 0)]⟩]) := by
 rcases cs with _ | ⟨x0, _ | ⟨x1, _ | ⟨x2, _ | ⟨x3, _ | ⟨x4, _ | ⟨x5, _ | ⟨x6, _ | ⟨x7, _ | ⟨x8, _ | ⟨x9, _ | ⟨x10, _ | ⟨x11, _ | ⟨x12, cs⟩⟩⟩⟩⟩⟩⟩⟩⟩⟩⟩⟩⟩ <;> first | (simp at hcs; done) | skip
 refine VDf.recover (v := .iface 67 (.agg #[.int .i64 (p : Nat), .int .i64 e])) Tryd.func24 rfl Tryd.ntmps24 Tryd.results24 le_ rfl rfl rfl rfl rfl rfl (by decide) (fun c0 cs h => recoverD_pan _ c0 cs h) fun X0 w0 => ?_
 refine sr_ ?_
 refine om_ ?_
 refine os_ (still_errYes rfl ot Tryd.underlying20) ?_
 refine on_ [(0, _), (1, _), (2, _), (3, _), (7, _)] [⟨k4, 33, 1, [_]⟩, ⟨k3, 3, 1, [_]⟩, ⟨k2, 32, 12, [_, _, _, _, _, _, _, _, _, _, _, _]⟩] ?_
 refine CD.cond ot (fun hc0 => ?_) (fun hc0 => ?_)
 ·refine sr_ ?_
  refine om_ ?_
  refine os_ (still_tassert (vs := [.int .i64 ((p : Nat) : Int), .int .i64 e]) rfl ot Tryd.underlying67) ?_
  refine OD.alloc (ds := [_, _]) wp_ rfl rfl Tryd.zeroValue67 rfl (fun b4 => ?_)
  refine ot_ 0 [_, _] Tryd.sizeOf67 ?_
  refine on_ [(0, _), (1, _), (2, _), (4, _)] [⟨b4, 67, 2, [_, _]⟩, ⟨k4, 33, 1, [_]⟩, ⟨k3, 3, 1, [_]⟩, ⟨k2, 32, 12, [_, _, _, _, _, _, _, _, _, _, _, _]⟩] ?_
  refine CD.draw (bks (List.take 1 _)) kr_ (fun _ h => (List.Sublist.map _ (List.take_sublist _ _)).subset h) ?_
  refine a0_ 0 rfl (still_bld (pl := []) (ds := [_, _, _, _, _, _, _, _, _, _, _, _]) rfl Tryd.zeroValue32 Tryd.runUnderlying32 places32_Pbc trivial rfl rfl) ?_
  refine a0_ 1 rfl (fa_ 0) ?_
  refine a0_ 2 rfl (lb_ 0) ?_
  refine a0_ 3 rfl (fa_ 1) ?_
  refine a0_ 4 rfl (lb_ 0) ?_
  refine AD0.later rfl ?_
  refine AD.one (i := 5) kr_ ?_
  refine as_ 3 [_, _, _, _, _, _, _, _, _, _, _, _] Tryd.sizeOf32 ?_
  refine AD.one (i := 6) kr_ ?_
  refine as_ 2 [_] Tryd.sizeOf3 ?_
  refine AD.one (i := 7) kr_ ?_
  refine as_ 1 [_] Tryd.sizeOf33 ?_
  refine aw_ [] [⟨b4, 67, 2, [_, _]⟩, ⟨k4, 33, 1, [_]⟩, ⟨k3, 3, 1, [_]⟩, ⟨k2, 32, 12, [_, _, _, _, _, _, _, _, _, _, _, _]⟩] ?_
  refine AD.done kr_ ?_
  exact ⟨rfl, _, rfl⟩
 exact absurd hc0 (by decide)

theorem places70_Pbc : ∀ w, ((#[{ name := "l", type := 26, offset := 0, embedded := false, tag := "", pkgPath := "padlock/parse", byteOffset := 0 }, { name := "at", type := 3, offset := 1, embedded := false, tag := "", pkgPath := "padlock/parse", byteOffset := 24 }, { name := "ops", type := 30, offset := 2, embedded := false, tag := "", pkgPath := "padlock/parse", byteOffset := 32 }] : Array Field).mapM fun f => do pure (f.offset, ← sizeOf f.type) : Sem (Array (Nat × Nat))).run Tryd.prog w = .ok #[(0, 1), (1, 1), (2, 1)] w := fun w => by simp [Tryd.sizeOf26, Tryd.sizeOf3, Tryd.sizeOf30]

set_option maxHeartbeats 4000000 in
set_option maxRecDepth 100000 in
theorem parse_vc (hm : (0, marksC) ∈ G) (hw : (2, wordsC) ∈ G) (hk : (5, cmpC) ∈ G) (hty : (1, typesC) ∈ G) (l : List Tk) (hs : ∀ t ∈ l, t.s.size ≤ maxLen ∧ t.n ≤ 9223372036854775807) : VP Tryd.prog G 13 [.list 3 (l.flatMap cT) l.length] (dvP (parseF l)) := by
 refine VC.closing Tryd.func13 rfl Tryd.ntmps13 le_ fun X w0 => ?_
 refine KD.seqC (Q1 := fun e y => e = .normal ∧ ∃ b2 b3 b4, y = (⟨44, [(0, .list 3 (l.flatMap cT) l.length), (2, .v (.pointer (some ⟨b2, 0, none⟩))), (3, .v (.pointer (some ⟨b3, 0, none⟩))), (4, .v (.pointer (some ⟨b4, 0, none⟩)))], [⟨b4, 33, 1, [.v (.int .i64 0)]⟩, ⟨b3, 3, 1, [.v (.int .i64 0)]⟩, ⟨b2, 32, 12, [.v (.int .i64 0), .v (.string ⟨#[]⟩), .v (.slice none 0 0), .v (.slice none 0 0), .v (.slice none 0 0), .v (.bool false), .v (.slice none 0 0), .v (.string ⟨#[]⟩), .v (.bool false), .v (.int .i64 0), .v (.string ⟨#[]⟩), .v (.slice none 0 0)]⟩]⟩ : St)) (fun _ _ h => h) ?_ ?_ (fun e a w y he _ h => absurd h.1 he)
 ·skip
  refine CD.region ?_
  refine OD.alloc (ds := [_, _, _, _, _, _, _, _, _, _, _, _]) wp_ rfl rfl Tryd.zeroValue32 rfl (fun b2 => ?_)
  refine OD.alloc (ds := [_]) wp_ rfl rfl Tryd.zeroValue3 rfl (fun b3 => ?_)
  refine OD.alloc (ds := [_]) wp_ rfl rfl Tryd.zeroValue33 rfl (fun b4 => ?_)
  refine on_ [(0, _), (2, _), (3, _), (4, _)] [⟨b4, 33, 1, [_]⟩, ⟨b3, 3, 1, [_]⟩, ⟨b2, 32, 12, [_, _, _, _, _, _, _, _, _, _, _, _]⟩] ?_
  exact ⟨rfl, _, _, _, rfl⟩
 rintro _ ⟨-, b2, b3, b4, rfl⟩
 refine KD.seqC (Q1 := fun e y => (e = .normal ∧ l.length ≤ 100 ∧ y = (⟨44, [(0, .list 3 (l.flatMap cT) l.length), (2, .v (.pointer (some ⟨b2, 0, none⟩))), (3, .v (.pointer (some ⟨b3, 0, none⟩))), (4, .v (.pointer (some ⟨b4, 0, none⟩)))], [⟨b4, 33, 1, [.v (.int .i64 0)]⟩, ⟨b3, 3, 1, [.v (.int .i64 0)]⟩, ⟨b2, 32, 12, [.v (.int .i64 0), .v (.string ⟨#[]⟩), .v (.slice none 0 0), .v (.slice none 0 0), .v (.slice none 0 0), .v (.bool false), .v (.slice none 0 0), .v (.string ⟨#[]⟩), .v (.bool false), .v (.int .i64 0), .v (.string ⟨#[]⟩), .v (.slice none 0 0)]⟩]⟩ : St)) ∨ (e = .ret ∧ ∃ r S', List.Sublist S' y.S ∧ Ret Tryd.prog Tryd.f13 y r ∧ (r = dvP (parseF l) ∧ S' = []))) (fun _ _ h => h) ?_ ?_ (fun e a w y he hs h => by (rcases h with h | ⟨rfl, h⟩; exact absurd h.1 he; exact leave_ret hs h))
 ·skip
  refine sr_ ?_
  refine om_ ?_
  refine os_ ln_ ?_
  refine os_ bn_ ?_
  refine nm_ [0, 2, 3, 4, 11] ?_
  refine CD.cond ot (fun hc0 => ?_) (fun hc0 => ?_)
  ·have hc0' := hc0
   (try simp only [V.cnd, ne_eq] at hc0')
   have hbig : l.length > 100 := by simp at hc0; omega
   refine sr_ ?_
   refine os_ (still_bld (pl := []) (ds := [_, _, _, _, _, _, _, _, _, _, _, _]) rfl Tryd.zeroValue32 Tryd.runUnderlying32 places32_Pbc trivial rfl rfl) ?_
   refine ot_ 2 [_, _, _, _, _, _, _, _, _, _, _, _] Tryd.sizeOf32 ?_
   refine ot_ 1 [_] Tryd.sizeOf3 ?_
   refine ot_ 0 [_] Tryd.sizeOf33 ?_
   refine on_ [(0, _), (2, _), (3, _), (4, _)] [⟨b4, 33, 1, [_]⟩, ⟨b3, 3, 1, [_]⟩, ⟨b2, 32, 12, [_, _, _, _, _, _, _, _, _, _, _, _]⟩] ?_
   refine CD.ret ?_
   exact Or.inr ⟨rfl, dvP (stZ, 0, 10), [], List.nil_sublist _, (ret_three Tryd.results13 (res_cells (k := 2) (ds := [_, _, _, _, _, _, _, _, _, _, _, _]) le_ lk rfl rfl Tryd.isAgg32 Tryd.sizeOf32 rfl rfl) (res_cell (k := 1) le_ lk rfl rfl Tryd.isAgg3 rfl) (res_cell (k := 0) le_ lk rfl rfl Tryd.isAgg33 rfl)).gv (gv_tup ⟨gv_agg (by repeat (first | exact trivial | exact ⟨gv_rfl, trivial⟩ | exact ⟨gv_nil, trivial⟩ | refine ⟨gv_rfl, ?_⟩ | refine ⟨gv_nil, ?_⟩)), gv_rfl, gv_rfl, trivial⟩), (by rw [parse_big hbig]), rfl⟩
  have hc0' := hc0
  (try simp only [V.cnd, ne_eq] at hc0')
  have hl : l.length ≤ 100 := by simp at hc0; omega
  refine CD.wk (Wk.as_ (n := 44) (l' := [(0, _), (2, _), (3, _), (4, _)]) (S' := [⟨b4, 33, 1, [_]⟩, ⟨b3, 3, 1, [_]⟩, ⟨b2, 32, 12, [_, _, _, _, _, _, _, _, _, _, _, _]⟩]) rfl rfl sl_) ?_
  refine CD.skip ?_
  exact Or.inl ⟨rfl, hl, rfl⟩
 intro y hy
 obtain ⟨hl, rfl⟩ : l.length ≤ 100 ∧ y = (⟨44, [(0, .list 3 (l.flatMap cT) l.length), (2, .v (.pointer (some ⟨b2, 0, none⟩))), (3, .v (.pointer (some ⟨b3, 0, none⟩))), (4, .v (.pointer (some ⟨b4, 0, none⟩)))], [⟨b4, 33, 1, [.v (.int .i64 0)]⟩, ⟨b3, 3, 1, [.v (.int .i64 0)]⟩, ⟨b2, 32, 12, [.v (.int .i64 0), .v (.string ⟨#[]⟩), .v (.slice none 0 0), .v (.slice none 0 0), .v (.slice none 0 0), .v (.bool false), .v (.slice none 0 0), .v (.string ⟨#[]⟩), .v (.bool false), .v (.int .i64 0), .v (.string ⟨#[]⟩), .v (.slice none 0 0)]⟩]⟩ : St) := by (rcases hy with ⟨-, h⟩ | ⟨h, -⟩; exact h; cases h)
 refine KD.seqC (Q1 := fun e y => (e = .normal ∧ badTk l 0 = none ∧ y = (⟨44, [(0, .list 3 (l.flatMap cT) l.length), (2, .v (.pointer (some ⟨b2, 0, none⟩))), (3, .v (.pointer (some ⟨b3, 0, none⟩))), (4, .v (.pointer (some ⟨b4, 0, none⟩)))], [⟨b4, 33, 1, [.v (.int .i64 0)]⟩, ⟨b3, 3, 1, [.v (.int .i64 0)]⟩, ⟨b2, 32, 12, [.v (.int .i64 0), .v (.string ⟨#[]⟩), .v (.slice none 0 0), .v (.slice none 0 0), .v (.slice none 0 0), .v (.bool false), .v (.slice none 0 0), .v (.string ⟨#[]⟩), .v (.bool false), .v (.int .i64 0), .v (.string ⟨#[]⟩), .v (.slice none 0 0)]⟩]⟩ : St)) ∨ (e = .ret ∧ ∃ r S', List.Sublist S' y.S ∧ Ret Tryd.prog Tryd.f13 y r ∧ (r = dvP (parseF l) ∧ S' = []))) (fun _ _ h => h) ?_ ?_ (fun e a w y he hs h => by (rcases h with h | ⟨rfl, h⟩; exact absurd h.1 he; exact leave_ret hs h))
 ·skip
  refine sr_ ?_
  refine om_ ?_
  refine os_ ln_ ?_
  refine om_ ?_
  refine nm_ [0, 2, 3, 4, 13, 14, 15] ?_
  refine CD.block ?_
  refine lp_ (fun (i : Nat) y__ => (i ≤ l.length) ∧ (badTk l 0 = badTk (l.drop i) i) ∧ y__ = (⟨44, [(0, .list 3 (l.flatMap cT) l.length), (2, .v (.pointer (some ⟨b2, 0, none⟩))), (3, .v (.pointer (some ⟨b3, 0, none⟩))), (4, .v (.pointer (some ⟨b4, 0, none⟩))), (13, .list 3 (l.flatMap cT) l.length), (14, .v (.int .i64 l.length)), (15, .v (.int .i64 (i : Nat)))], [⟨b4, 33, 1, [.v (.int .i64 0)]⟩, ⟨b3, 3, 1, [.v (.int .i64 0)]⟩, ⟨b2, 32, 12, [.v (.int .i64 0), .v (.string ⟨#[]⟩), .v (.slice none 0 0), .v (.slice none 0 0), .v (.slice none 0 0), .v (.bool false), .v (.slice none 0 0), .v (.string ⟨#[]⟩), .v (.bool false), .v (.int .i64 0), .v (.string ⟨#[]⟩), .v (.slice none 0 0)]⟩]⟩ : St)) (fun (i : Nat) => l.length - i) 0 ⟨(Nat.zero_le _), (by rw [List.drop_zero]), rfl⟩ (Wk.asS rfl sv_ sq_) ?_
  rintro i _ ⟨hi, hq, rfl⟩
  refine sr_ ?_
  refine os_ bn_ ?_
  refine nm_ [0, 2, 3, 4, 13, 14, 15, 16] ?_
  refine CD.seq ?_
  refine CD.cond ot (fun hc1 => ?_) (fun hc1 => ?_)
  ·have hc1' := hc1
   (try simp only [V.cnd, ne_eq] at hc1')
   have hlt : i < l.length := by simp at hc1; omega
   refine CD.skip ?_
   refine CD.seq ?_
   refine CD.block ?_
   refine sr_ ?_
   refine om_ ?_
   refine os_ (ix_ 3 (h := by first | exact .l (j := i) rfl hlt | exact .r (j := i) rfl hlt)) ?_
   refine os_ (la_ [_, _, _]) ?_
   refine OD.alloc (ds := [_, _, _]) wp_ rfl rfl Tryd.zeroValue24 rfl (fun b6 => ?_)
   refine om_ ?_
   refine ot_ 0 [_, _, _] Tryd.sizeOf24 ?_
   refine on_ [(0, _), (2, _), (3, _), (4, _), (5, _), (6, _), (13, _), (14, _), (15, _)] [⟨b6, 24, 3, [_, _, _]⟩, ⟨b4, 33, 1, [_]⟩, ⟨b3, 3, 1, [_]⟩, ⟨b2, 32, 12, [_, _, _, _, _, _, _, _, _, _, _, _]⟩] ?_
   refine sr_ ?_
   refine os_ (lab_ 0 [_, _, _]) ?_
   refine oc_ Tryd.call23 (Nm.check_vp hm l[i] (hs _ (List.getElem_mem hlt)).1) ?_
   refine om_ ?_
   refine on_ [(0, _), (2, _), (3, _), (4, _), (5, _), (7, _), (13, _), (14, _), (15, _)] [⟨b6, 24, 3, [_, _, _]⟩, ⟨b4, 33, 1, [_]⟩, ⟨b3, 3, 1, [_]⟩, ⟨b2, 32, 12, [_, _, _, _, _, _, _, _, _, _, _, _]⟩] ?_
   refine sr_ ?_
   refine om_ ?_
   refine os_ bn_ ?_
   refine nm_ [0, 2, 3, 4, 5, 7, 13, 14, 15, 23] ?_
   refine CD.cond ot (fun hc2 => ?_) (fun hc2 => ?_)
   ·have hc2' := hc2
    (try simp only [V.cnd, ne_eq] at hc2')
    have hnz : checkT l[i] ≠ 0 := by simpa using hc2
    refine sr_ ?_
    refine os_ (still_bld (pl := []) (ds := [_, _, _, _, _, _, _, _, _, _, _, _]) rfl Tryd.zeroValue32 Tryd.runUnderlying32 places32_Pbc trivial rfl rfl) ?_
    refine om_ ?_
    refine om_ ?_
    refine ot_ 3 [_, _, _, _, _, _, _, _, _, _, _, _] Tryd.sizeOf32 ?_
    refine ot_ 2 [_] Tryd.sizeOf3 ?_
    refine ot_ 1 [_] Tryd.sizeOf33 ?_
    refine on_ [(0, _), (2, _), (3, _), (4, _)] [⟨b6, 24, 3, [_, _, _]⟩, ⟨b4, 33, 1, [_]⟩, ⟨b3, 3, 1, [_]⟩, ⟨b2, 32, 12, [_, _, _, _, _, _, _, _, _, _, _, _]⟩] ?_
    refine CD.ret ?_
    exact Or.inr ⟨rfl, dvP (stZ, i, checkT l[i]), [], List.nil_sublist _, (ret_three Tryd.results13 (res_cells (k := 3) (ds := [_, _, _, _, _, _, _, _, _, _, _, _]) le_ lk rfl rfl Tryd.isAgg32 Tryd.sizeOf32 rfl rfl) (res_cell (k := 2) le_ lk rfl rfl Tryd.isAgg3 rfl) (res_cell (k := 1) le_ lk rfl rfl Tryd.isAgg33 rfl)).gv (gv_tup ⟨gv_agg (by repeat (first | exact trivial | exact ⟨gv_rfl, trivial⟩ | exact ⟨gv_nil, trivial⟩ | refine ⟨gv_rfl, ?_⟩ | refine ⟨gv_nil, ?_⟩)), gv_rfl, gv_rfl, trivial⟩), (by rw [parse_bad hl (bad_at hlt hq hnz)]), rfl⟩
   have hc2' := hc2
   (try simp only [V.cnd, ne_eq] at hc2')
   have hz : checkT l[i] = 0 := by simpa using hc2
   refine CD.skip ?_
   refine CD.region ?_
   refine os_ bn_ ?_
   refine om_ ?_
   refine nm_ [0, 2, 3, 4, 13, 14, 15] ?_
   refine ⟨(i + 1), _, ?_, ?_, (by omega), (bad_on hlt hq hz), rfl⟩
   ·first | omega | (simp only []; omega)
   exact Wk.asS (n := 44) rfl sv_ sq_
  have hc1' := hc1
  (try simp only [V.cnd, ne_eq] at hc1')
  have hie : l.length ≤ i := by simp at hc1; omega
  have hbad : badTk l 0 = none := by rw [hq, List.drop_of_length_le hie]; rfl
  refine CD.wk (Wk.as_ (n := 44) (l' := [(0, _), (2, _), (3, _), (4, _)]) (S' := [⟨b4, 33, 1, [_]⟩, ⟨b3, 3, 1, [_]⟩, ⟨b2, 32, 12, [_, _, _, _, _, _, _, _, _, _, _, _]⟩]) rfl rfl sl_) ?_
  refine CD.exit ?_
  exact Or.inl ⟨rfl, hbad, rfl⟩
 intro y hy
 obtain ⟨hbad, rfl⟩ : badTk l 0 = none ∧ y = (⟨44, [(0, .list 3 (l.flatMap cT) l.length), (2, .v (.pointer (some ⟨b2, 0, none⟩))), (3, .v (.pointer (some ⟨b3, 0, none⟩))), (4, .v (.pointer (some ⟨b4, 0, none⟩)))], [⟨b4, 33, 1, [.v (.int .i64 0)]⟩, ⟨b3, 3, 1, [.v (.int .i64 0)]⟩, ⟨b2, 32, 12, [.v (.int .i64 0), .v (.string ⟨#[]⟩), .v (.slice none 0 0), .v (.slice none 0 0), .v (.slice none 0 0), .v (.bool false), .v (.slice none 0 0), .v (.string ⟨#[]⟩), .v (.bool false), .v (.int .i64 0), .v (.string ⟨#[]⟩), .v (.slice none 0 0)]⟩]⟩ : St) := by (rcases hy with ⟨-, h⟩ | ⟨h, -⟩; exact h; cases h)
 have ht : ∀ t ∈ l, t.s.size ≤ maxLen ∧ (t.k = 2 → 0 ≤ t.n ∧ t.n ≤ 9223372036854775807) := fun t h => ⟨(hs t h).1, fun hk => ⟨num_pos (bad_none hbad t h) hk, (hs t h).2⟩⟩
 refine KD.defer (vs := [(.pointer (some ⟨b2, 0, none⟩)), (.pointer (some ⟨b3, 0, none⟩)), (.pointer (some ⟨b4, 0, none⟩))]) rfl rfl (show Still _ _ _ _ _ (.clo (.func 24) [.v (.pointer (some ⟨b2, 0, none⟩)), .v (.pointer (some ⟨b3, 0, none⟩)), .v (.pointer (some ⟨b4, 0, none⟩))]) from still_fn rfl ⟨ot, ot, ot, trivial⟩) rfl rfl rfl rfl ?_
 refine KD.of (Q := fun e y => (e = .ret ∧ ∃ B s, parseF l = (s, 0, 0) ∧ y = (⟨44, [(2, .v (.pointer (some ⟨b2, 0, none⟩))), (3, .v (.pointer (some ⟨b3, 0, none⟩))), (4, .v (.pointer (some ⟨b4, 0, none⟩)))], [B, ⟨b4, 33, 1, [.v (.int .i64 0)]⟩, ⟨b3, 3, 1, [.v (.int .i64 0)]⟩, ⟨b2, 32, 12, (cSt s)⟩]⟩ : St)) ∨ ∃ ch, e = .panic ch ∧ ∃ q e, ch = wrC q e ∧ parseF l = (stZ, q, e) ∧ ∃ (env : List (Nat × D)) (c4 c3 : D) (cs : List D), y = (⟨44, env, [⟨b4, 33, 1, [c4]⟩, ⟨b3, 3, 1, [c3]⟩, ⟨b2, 32, 12, cs⟩]⟩ : St) ∧ cs.length = 12 ∧ V.look 2 env = .v (.pointer (some ⟨b2, 0, none⟩)) ∧ V.look 3 env = .v (.pointer (some ⟨b3, 0, none⟩)) ∧ V.look 4 env = .v (.pointer (some ⟨b4, 0, none⟩))) ?_ ?_
 ·skip
  refine sr_ ?_
  refine om_ ?_
  refine os_ (still_bld (pl := [(0, _)]) (ds := [_, _, _]) rfl Tryd.zeroValue70 Tryd.runUnderlying70 places70_Pbc ⟨rfl, ot, trivial⟩ rfl rfl) ?_
  refine OD.box (ds := [_, _, _]) wp_ rfl rfl ot rfl rfl (fun b31 => ?_)
  refine om_ ?_
  refine on_ [(0, _), (2, _), (3, _), (4, _), (8, _)] [⟨b31, 70, 3, [_, _, _]⟩, ⟨b4, 33, 1, [_]⟩, ⟨b3, 3, 1, [_]⟩, ⟨b2, 32, 12, [_, _, _, _, _, _, _, _, _, _, _, _]⟩] ?_
  refine sr_ ?_
  refine om_ ?_
  refine OD.callX wp_ rfl rfl rfl Tryd.call25 (statement_vx (br := b31) hl hm hw hk hty ht 0 (Nat.zero_le _) [] _ rfl none 0 0) ⟨ot, trivial⟩ (List.Perm.refl _) (fun ch hch => by obtain ⟨q, e, h1, rfl⟩ := hch; exact Or.inr ⟨_, rfl, q, e, rfl, parse_no hl hbad h1, _, _, _, _, rfl, rfl, lk, lk, lk⟩) ?_
  rintro _ _ ⟨s, p, os, ad, n, cap, hst, ⟨rfl, hok⟩, hp, rfl⟩
  unfold cSt
  refine OD.perm (S' := ⟨b31, 70, 3, [.list 3 (l.flatMap cT) l.length, .v (.int .i64 ((p : Nat) : Int)), .v (.slice ad n cap)]⟩ :: [⟨b4, 33, 1, [_]⟩, ⟨b3, 3, 1, [_]⟩, ⟨b2, 32, 12, [_, _, _, _, _, _, _, _, _, _, _, _]⟩]) (List.Perm.refl _) ?_
  refine ot_ 3 [_, _, _, _, _, _, _, _, _, _, _, _] Tryd.sizeOf32 ?_
  refine on_ [(0, _), (2, _), (3, _), (4, _), (8, _)] [⟨b31, 70, 3, [_, _, _]⟩, ⟨b4, 33, 1, [_]⟩, ⟨b3, 3, 1, [_]⟩, ⟨b2, 32, 12, [_, _, _, _, _, _, _, _, _, _, _, _]⟩] ?_
  refine CD.seq ?_
  refine sr_ ?_
  refine om_ ?_
  refine os_ nc_ ?_
  refine os_ (fa_ 1) ?_
  refine os_ (lb_ 0) ?_
  refine om_ ?_
  refine os_ ln_ ?_
  refine os_ bn_ ?_
  refine nm_ [2, 3, 4, 8, 40] ?_
  refine CD.cond ot (fun hc3 => ?_) (fun hc3 => ?_)
  ·have hc3' := hc3
   (try simp only [V.cnd, ne_eq] at hc3')
   have hmo : p < l.length := by simp at hc3; omega
   refine CD.region ?_
   refine om_ ?_
   exact OD.callX wp_ rfl rfl rfl Tryd.call26 (give_vx l hl p 6 ad n cap b31) ⟨ot, opd_const, trivial⟩ (List.Perm.refl _) (fun ch hch => by subst hch; exact Or.inr ⟨_, rfl, p, _, rfl, parse_more hl hbad hst hmo, _, _, _, _, rfl, rfl, lk, lk, lk⟩) (fun r S' h => h.elim)
  have hc3' := hc3
  (try simp only [V.cnd, ne_eq] at hc3')
  have hmo : ¬ p < l.length := by simp at hc3; omega
  refine CD.skip ?_
  refine sr_ ?_
  refine os_ (lab_ 3 [_, _, _, _, _, _, _, _, _, _, _, _]) ?_
  refine ot_ 3 [_, _, _, _, _, _, _, _, _, _, _, _] Tryd.sizeOf32 ?_
  refine ot_ 2 [_] Tryd.sizeOf3 ?_
  refine ot_ 1 [_] Tryd.sizeOf33 ?_
  refine on_ [(2, _), (3, _), (4, _)] [⟨b31, 70, 3, [_, _, _]⟩, ⟨b4, 33, 1, [_]⟩, ⟨b3, 3, 1, [_]⟩, ⟨b2, 32, 12, [_, _, _, _, _, _, _, _, _, _, _, _]⟩] ?_
  refine CD.ret ?_
  exact Or.inl ⟨rfl, _, s, parse_ok hl hbad hst hmo, rfl⟩
 intro e a w h
 rcases h with ⟨y, hy, ⟨rfl, B, s, hpf, rfl⟩ | ⟨ch, rfl, q, e, rfl, hpf, env, c4, c3, cs, rfl, hcs, h2, h3, h4⟩⟩ | ⟨_, h⟩
 ·have hw := leaves_one (fn := Tryd.f13) (post := fun r S' => r = dvP (parseF l) ∧ S' = []) (S0 := []) (u := .returning) (u' := .returning) (caps := [(.pointer (some ⟨b2, 0, none⟩)), (.pointer (some ⟨b3, 0, none⟩)), (.pointer (some ⟨b4, 0, none⟩))].map D.v) (cv := [(.pointer (some ⟨b2, 0, none⟩)), (.pointer (some ⟨b3, 0, none⟩)), (.pointer (some ⟨b4, 0, none⟩))]) (Sf := []) (Rs := [B, ⟨b4, 33, 1, [.v (.int .i64 0)]⟩, ⟨b3, 3, 1, [.v (.int .i64 0)]⟩, ⟨b2, 32, 12, (cSt s)⟩]) (pc := fun S' => S' = []) hy rfl rfl rfl hy.defers (repL_flat _) Tryd.call24 (List.Perm.refl _) (by intro h; cases h) rfl (cl_ret b2 b3 b4 [])
   (fun S' h => by subst h; exact ⟨_, [], List.nil_sublist _, ret_three Tryd.results13 (res_cells (k := 3) (ds := [_, _, _, _, _, _, _, _, _, _, _, _]) le_ lk rfl rfl Tryd.isAgg32 Tryd.sizeOf32 rfl rfl) (res_cell (k := 2) le_ lk rfl rfl Tryd.isAgg3 rfl) (res_cell (k := 1) le_ lk rfl rfl Tryd.isAgg33 rfl), (by rw [hpf]; rfl), rfl⟩)
  exact hw
 ·have hw := leaves_one (fn := Tryd.f13) (post := fun r S' => r = dvP (parseF l) ∧ S' = []) (S0 := []) (u := .panicking (wrC q e)) (u' := .panicking [{ v := .iface 67 (.agg #[.int .i64 (q : Nat), .int .i64 e]), recovered := true }]) (caps := [(.pointer (some ⟨b2, 0, none⟩)), (.pointer (some ⟨b3, 0, none⟩)), (.pointer (some ⟨b4, 0, none⟩))].map D.v) (cv := [(.pointer (some ⟨b2, 0, none⟩)), (.pointer (some ⟨b3, 0, none⟩)), (.pointer (some ⟨b4, 0, none⟩))]) (Sf := [⟨b4, 33, 1, [c4]⟩, ⟨b3, 3, 1, [c3]⟩, ⟨b2, 32, 12, cs⟩]) (Rs := []) (pc := fun S' => ∃ B, S' = [B, ⟨b4, 33, 1, [.v (.int .i64 e)]⟩, ⟨b3, 3, 1, [.v (.int .i64 ((q : Nat) : Int))]⟩, ⟨b2, 32, 12, [.v (.int .i64 0), .v (.string ⟨#[]⟩), .v (.slice none 0 0), .v (.slice none 0 0), .v (.slice none 0 0), .v (.bool false), .v (.slice none 0 0), .v (.string ⟨#[]⟩), .v (.bool false), .v (.int .i64 0), .v (.string ⟨#[]⟩), .v (.slice none 0 0)]⟩]) hy rfl rfl rfl hy.defers (repL_flat _) Tryd.call24 (List.Perm.refl _) (by intro h; cases h) rfl (cl_pan0 b2 b3 b4 q e c4 c3 cs hcs)
   (fun S' h => by obtain ⟨B, rfl⟩ := h; exact ⟨dvP (stZ, q, e), [], List.nil_sublist _, (ret_three Tryd.results13 (res_cells (k := 3) (ds := [_, _, _, _, _, _, _, _, _, _, _, _]) le_ h2 rfl rfl Tryd.isAgg32 Tryd.sizeOf32 rfl rfl) (res_cell (k := 2) le_ h3 rfl rfl Tryd.isAgg3 rfl) (res_cell (k := 1) le_ h4 rfl rfl Tryd.isAgg33 rfl)).gv (gv_tup ⟨gv_agg (by repeat (first | exact trivial | exact ⟨gv_rfl, trivial⟩ | exact ⟨gv_nil, trivial⟩ | refine ⟨gv_rfl, ?_⟩ | refine ⟨gv_nil, ?_⟩)), gv_rfl, gv_rfl, trivial⟩), (by rw [hpf]), rfl⟩)
  exact hw
 exact h.elim


end Go.Proofs.YtjgekbmahhhokaaDoor.Pa

namespace Go.Proofs.YtjgekbmahhhokaaDoor.Pa
end Go.Proofs.YtjgekbmahhhokaaDoor.Pa


namespace Go.Proofs
open Go.Shelf
def Tryd.laysC172_ren : Go.Shelf.Ren := ⟨fun | 172 => 69 | 244 => 86 | 245 => 87 | 247 => 93 | 279 => 94 | 280 => 95 | 281 => 96 | 282 => 97 | 287 => 99 | 316 => 100 | 171 => 102 | 205 => 101 | 321 => 104 | 322 => 105 | 243 => 106 | 246 => 109 | 283 => 112 | 284 => 113 | 285 => 114 | 286 => 115 | 129 => 119 | 317 => 118 | 318 => 120 | 319 => 121 | 320 => 122 | 337 => 123 | 338 => 124 | n => n, fun | 9 => 9 | 3 => 3 | 75 => 109 | 76 => 110 | 4 => 4 | 5 => 5 | 167 => 129 | 37 => 62 | 0 => 0 | 85 => 130 | 2 => 2 | 168 => 132 | 53 => 135 | 175 => 136 | 46 => 138 | 210 => 140 | 127 => 145 | 145 => 148 | 143 => 146 | 21 => 21 | 171 => 154 | 173 => 157 | 212 => 162 | 51 => 163 | 20 => 20 | 213 => 164 | 232 => 167 | 233 => 168 | 80 => 88 | n => n, fun | 15 => 3 | 16 => 4 | 17 => 6 | 18 => 7 | 19 => 8 | n => n⟩
theorem Tryd.laysC172 : Go.Proofs.LaysC.n172 Tryd.prog Tryd.laysC172_ren := {
 mixed := by kernel_rfl
 f129 := Tryd.func119.trans (congrArg some (by kernel_rfl))
 f171 := Tryd.func102.trans (congrArg some (by kernel_rfl))
 f172 := Tryd.func69.trans (congrArg some (by kernel_rfl))
 f205 := Tryd.func101.trans (congrArg some (by kernel_rfl))
 f243 := Tryd.func106.trans (congrArg some (by kernel_rfl))
 f244 := Tryd.func86.trans (congrArg some (by kernel_rfl))
 f245 := Tryd.func87.trans (congrArg some (by kernel_rfl))
 f246 := Tryd.func109.trans (congrArg some (by kernel_rfl))
 f247 := Tryd.func93.trans (congrArg some (by kernel_rfl))
 f279 := Tryd.func94.trans (congrArg some (by kernel_rfl))
 f280 := Tryd.func95.trans (congrArg some (by kernel_rfl))
 f281 := Tryd.func96.trans (congrArg some (by kernel_rfl))
 f282 := Tryd.func97.trans (congrArg some (by kernel_rfl))
 f283 := Tryd.func112.trans (congrArg some (by kernel_rfl))
 f284 := Tryd.func113.trans (congrArg some (by kernel_rfl))
 f285 := Tryd.func114.trans (congrArg some (by kernel_rfl))
 f286 := Tryd.func115.trans (congrArg some (by kernel_rfl))
 f287 := Tryd.func99.trans (congrArg some (by kernel_rfl))
 f316 := Tryd.func100.trans (congrArg some (by kernel_rfl))
 f317 := Tryd.func118.trans (congrArg some (by kernel_rfl))
 f318 := Tryd.func120.trans (congrArg some (by kernel_rfl))
 f319 := Tryd.func121.trans (congrArg some (by kernel_rfl))
 f320 := Tryd.func122.trans (congrArg some (by kernel_rfl))
 f321 := Tryd.func104.trans (congrArg some (by kernel_rfl))
 f322 := Tryd.func105.trans (congrArg some (by kernel_rfl))
 f337 := Tryd.func123.trans (congrArg some (by kernel_rfl))
 f338 := Tryd.func124.trans (congrArg some (by kernel_rfl))
 t0 := Tryd.underlying0
 a0 := Tryd.isAgg0
 z0 := Tryd.sizeOf0
 v0 := Tryd.zeroValue0
 t2 := Tryd.underlying2
 a2 := Tryd.isAgg2
 z2 := Tryd.sizeOf2
 v2 := Tryd.zeroValue2
 t3 := Tryd.underlying3
 a3 := Tryd.isAgg3
 z3 := Tryd.sizeOf3
 v3 := Tryd.zeroValue3
 t4 := Tryd.underlying4
 a4 := Tryd.isAgg4
 z4 := Tryd.sizeOf4
 v4 := Tryd.zeroValue4
 t5 := Tryd.underlying5
 a5 := Tryd.isAgg5
 z5 := Tryd.sizeOf5
 v5 := Tryd.zeroValue5
 t9 := Tryd.underlying9
 a9 := Tryd.isAgg9
 z9 := Tryd.sizeOf9
 v9 := Tryd.zeroValue9
 t20 := Tryd.underlying20
 a20 := Tryd.isAgg20
 z20 := Tryd.sizeOf20
 v20 := Tryd.zeroValue20
 t21 := Tryd.underlying21
 a21 := Tryd.isAgg21
 z21 := Tryd.sizeOf21
 v21 := Tryd.zeroValue21
 t37 := Tryd.underlying62
 a37 := Tryd.isAgg62
 z37 := Tryd.sizeOf62
 v37 := Tryd.zeroValue62
 t46 := Tryd.underlying138
 a46 := Tryd.isAgg138
 z46 := Tryd.sizeOf138
 v46 := Tryd.zeroValue138
 t51 := Tryd.underlying163
 a51 := Tryd.isAgg163
 z51 := Tryd.sizeOf163
 v51 := Tryd.zeroValue163
 t53 := Tryd.underlying135
 a53 := Tryd.isAgg135
 z53 := Tryd.sizeOf135
 v53 := Tryd.zeroValue135
 t75 := Tryd.underlying109
 a75 := Tryd.isAgg109
 z75 := Tryd.sizeOf109
 v75 := Tryd.zeroValue109
 t76 := Tryd.underlying110
 a76 := Tryd.isAgg110
 z76 := Tryd.sizeOf110
 v76 := Tryd.zeroValue110
 t85 := Tryd.underlying130
 a85 := Tryd.isAgg130
 z85 := Tryd.sizeOf130
 v85 := Tryd.zeroValue130
 t127 := Tryd.underlying145
 a127 := Tryd.isAgg145
 z127 := Tryd.sizeOf145
 v127 := Tryd.zeroValue145
 t143 := Tryd.underlying146
 a143 := Tryd.isAgg146
 z143 := Tryd.sizeOf146
 v143 := Tryd.zeroValue146
 t145 := Tryd.underlying148
 a145 := Tryd.isAgg148
 z145 := Tryd.sizeOf148
 v145 := Tryd.zeroValue148
 t167 := Tryd.underlying129
 a167 := Tryd.isAgg129
 z167 := Tryd.sizeOf129
 v167 := Tryd.zeroValue129
 t168 := Tryd.underlying132
 a168 := Tryd.isAgg132
 z168 := Tryd.sizeOf132
 v168 := Tryd.zeroValue132
 t171 := Tryd.underlying154
 a171 := Tryd.isAgg154
 z171 := Tryd.sizeOf154
 v171 := Tryd.zeroValue154
 t173 := Tryd.underlying157
 a173 := Tryd.isAgg157
 z173 := Tryd.sizeOf157
 v173 := Tryd.zeroValue157
 t175 := Tryd.underlying136
 a175 := Tryd.isAgg136
 z175 := Tryd.sizeOf136
 v175 := Tryd.zeroValue136
 t210 := Tryd.underlying140
 a210 := Tryd.isAgg140
 z210 := Tryd.sizeOf140
 v210 := Tryd.zeroValue140
 t212 := Tryd.underlying162
 a212 := Tryd.isAgg162
 z212 := Tryd.sizeOf162
 v212 := Tryd.zeroValue162
 t213 := Tryd.underlying164
 a213 := Tryd.isAgg164
 z213 := Tryd.sizeOf164
 t232 := Tryd.underlying167
 a232 := Tryd.isAgg167
 z232 := Tryd.sizeOf167
 v232 := Tryd.zeroValue167
 t233 := Tryd.underlying168
 a233 := Tryd.isAgg168
 z233 := Tryd.sizeOf168
 v233 := Tryd.zeroValue168
 g15 := by kernel_rfl
 g16 := by kernel_rfl
 g17 := by kernel_rfl
 g18 := by kernel_rfl
 g19 := by kernel_rfl
 t80 := Tryd.underlying88
 a80 := Tryd.isAgg88
 z80 := Tryd.sizeOf88
 v80 := Tryd.zeroValue88
 i0 := by kernel_rfl
 i2 := by kernel_rfl
 i3 := by kernel_rfl
 i4 := by kernel_rfl
 i5 := by kernel_rfl
 i9 := by kernel_rfl
 i20 := by kernel_rfl
 i21 := by kernel_rfl
 i37 := by kernel_rfl
 i46 := by kernel_rfl
 i51 := by kernel_rfl
 i53 := by kernel_rfl
 i75 := by kernel_rfl
 i76 := by kernel_rfl
 i80 := by kernel_rfl
 i85 := by kernel_rfl
 i127 := by kernel_rfl
 i143 := by kernel_rfl
 i145 := by kernel_rfl
 i167 := by kernel_rfl
 i168 := by kernel_rfl
 i171 := by kernel_rfl
 i173 := by kernel_rfl
 i175 := by kernel_rfl
 i210 := by kernel_rfl
 i212 := by kernel_rfl
 i232 := by kernel_rfl
 i233 := by kernel_rfl
 m15 := by kernel_rfl
 m16 := by kernel_rfl
 m17 := by kernel_rfl
 m18 := by kernel_rfl
 m19 := by kernel_rfl
 c0 := by kernel_rfl
 c2 := by kernel_rfl
 c3 := by kernel_rfl
 c4 := by kernel_rfl
 c5 := by kernel_rfl
 c9 := by kernel_rfl
 c20 := by kernel_rfl
 c21 := by kernel_rfl
 c37 := by kernel_rfl
 c46 := by kernel_rfl
 c51 := by kernel_rfl
 c53 := by kernel_rfl
 c75 := by kernel_rfl
 c76 := by kernel_rfl
 c80 := by kernel_rfl
 c85 := by kernel_rfl
 c127 := by kernel_rfl
 c143 := by kernel_rfl
 c145 := by kernel_rfl
 c167 := by kernel_rfl
 c168 := by kernel_rfl
 c171 := by kernel_rfl
 c173 := by kernel_rfl
 c175 := by kernel_rfl
 c210 := by kernel_rfl
 c212 := by kernel_rfl
 c213 := by kernel_rfl
 c232 := by kernel_rfl
 c233 := by kernel_rfl }
open Go.RowKit in
theorem Tryd.strconv_Atoi_ok (s : ByteArray) (hmax : s.size ≤ 9223372036854775806) (v : Int) (h : Lib.atoiAll s.data.toList = .ok v) (w : World) :
  Calls Tryd.prog 69 #[.string s] w fun e w' => e = .returned (.tuple #[.int .i64 v, .nilIface]) ∧ (w' = w ∨ ∃ t, w' = Lib.bytesWorld w 5 t) := Any.strconv_Atoi_ok Tryd.laysC172 s hmax v h w
open Go.RowKit in
theorem Tryd.strconv_Atoi_range (s : ByteArray) (hlim : s.size ≤ 281474976710656) (h : Lib.atoiAll s.data.toList = .range) (ev : Value) (w : World) (hv : w.cell? ⟨4, 0, none⟩ = some ev) (hev : ev = .nilIface ∨ ∃ te pe, ev = .iface te pe) :
  Calls Tryd.prog 69 #[.string s] w fun e w' => ∃ N, e = .returned (.tuple #[.int .i64 (Lib.atoiSat s.data.toList), .iface 132 (.pointer (some ⟨N, 0, none⟩))]) ∧ w.heap.size ≤ N ∧ w'.heap[N]? = some (.cells #[.string ⟨#[65, 116, 111, 105]⟩, .string s, ev] 140 (0, 0)) ∧ Below w.heap.size w w' := Any.strconv_Atoi_range Tryd.laysC172 s hlim h ev w hv hev
def Tryd.lays99_ren : Go.Shelf.Ren := ⟨fun | 99 => 71 | 206 => 88 | n => n, fun | 9 => 9 | 4 => 4 | 3 => 3 | n => n, fun | n => n⟩
theorem Tryd.lays99 : Go.Proofs.Lays.n99 Tryd.prog Tryd.lays99_ren := {
 mixed := by kernel_rfl
 f99 := Tryd.func71.trans (congrArg some (by kernel_rfl))
 f206 := Tryd.func88.trans (congrArg some (by kernel_rfl))
 t3 := Tryd.underlying3
 a3 := Tryd.isAgg3
 z3 := Tryd.sizeOf3
 v3 := Tryd.zeroValue3
 t4 := Tryd.underlying4
 a4 := Tryd.isAgg4
 z4 := Tryd.sizeOf4
 v4 := Tryd.zeroValue4
 t9 := Tryd.underlying9
 a9 := Tryd.isAgg9
 z9 := Tryd.sizeOf9
 v9 := Tryd.zeroValue9 }
open Go.RowKit Go.Lib in
theorem Tryd.strings_HasPrefix (s p : ByteArray) (w : World) :
  Calls Tryd.prog 71 #[.string s, .string p] w fun e w' => e = .returned (.bool (Lib.hasPrefix s.data.toList p.data.toList)) ∧ w' = w := Any.strings_HasPrefix Tryd.lays99 s p w
end Go.Proofs

namespace Go.Proofs.YtjgekbmahhhokaaDoor.Lx
open Go.RowKit V Go.Proofs.YtjgekbmahhhokaaDoor.Nm Go.Proofs.YtjgekbmahhhokaaDoor.Pk
set_option linter.unusedVariables false
set_option linter.unusedSimpArgs false

def noTk : Tk := ⟨0, ⟨#[]⟩, 0⟩
def textG : List UInt8 → List UInt8 → Nat → Tk × Nat × Int
 | [], _, _ => (noTk, 0, 7)
 | [c], acc, i => if c = 39 then (⟨3, ⟨acc.toArray⟩, 0⟩, i + 1, 0) else (noTk, 0, 7)
 | c :: d :: r, acc, i => if c = 39 then (if d = 39 then textG r (acc ++ [39]) (i + 2) else (⟨3, ⟨acc.toArray⟩, 0⟩, i + 1, 0)) else textG (d :: r) (acc ++ [c]) (i + 1)
def afterL (l : List UInt8) : Bool := match l.dropWhile digitB with | c :: _ => letterB c | [] => false
def numL (l : List UInt8) : Tk × Nat × Int := match Lib.atoiAll (l.takeWhile digitB) with | .ok v => (⟨2, ⟨#[]⟩, v⟩, (l.takeWhile digitB).length, 0) | _ => (noTk, 0, 5)
def markL (l : List UInt8) : Tk × Nat × Int := match marksB.find? (fun m => m.isPrefixOf l) with | some m => (⟨4, ⟨m.toArray⟩, 0⟩, m.length, 0) | none => (noTk, 0, 6)
def oneF (l : List UInt8) : Tk × Nat × Int :=
 if letterB (l.getD 0 0) then (⟨1, ⟨(l.takeWhile wordB).toArray⟩, 0⟩, (l.takeWhile wordB).length, 0)
 else if digitB (l.getD 0 0) then (if afterL l then (noTk, 0, 6) else numL l)
 else if l.getD 0 0 = 39 then textG (l.drop 1) [] 1
 else markL l
def tokD (r : Tk × Nat × Int) : D := .tup [.agg (cT r.1), .v (.int .i64 (r.2.1 : Nat)), .v (.int .i64 r.2.2)]
def RangeVar (G : List (Nat × List Value)) : Prop := ∃ ev, (4, [ev]) ∈ G ∧ (ev = .nilIface ∨ ∃ te pe, ev = .iface te pe)

theorem frB {w w' : World} (h : Below w.heap.size w w') : Fr w (bks []) w' (bks []) := ⟨h.os, h.tape, h.output, h.size, fun b hb _ => ⟨h.block b hb, by simp [bks]⟩⟩
theorem own0 (w : World) (X : Nat → Prop) : V.Own w (V.live X []) [] := ⟨fun B hB => by simp at hB, by simp [bks]⟩
theorem pairs {w : World} {L : Nat → Prop} (u v : Value) : Rep w L (.tup [.v u, .v v]) (.tuple #[u, v]) := .tup _ [u, v] rfl fun i h h' => by
 match i, h, h' with
 | 0, _, _ => exact .v _
 | 1, _, _ => exact .v _
theorem digits_no : ∀ (l : List UInt8) (a : Nat), (∀ c ∈ l, digitB c = true) → (∃ u, Lib.parseUint10 a l = .ok u) ∨ Lib.parseUint10 a l = .range
 | [], a, _ => .inl ⟨a, rfl⟩
 | c :: r, a, hl => by
  have hc := hl c List.mem_cons_self
  simp only [digitB, decide_eq_true_eq] at hc
  rw [Lib.parseUint10, if_pos hc]
  split
  ·exact .inr rfl
  split
  ·exact .inr rfl
  exact digits_no r _ (fun d hd => hl d (List.mem_cons_of_mem _ hd))
theorem atoi_no {l : List UInt8} (hl : ∀ c ∈ l, digitB c = true) (h0 : l ≠ []) : (∃ v, Lib.atoiAll l = .ok v) ∨ Lib.atoiAll l = .range := by
 match l, h0 with
 | c :: r, _ =>
  have hc := hl c List.mem_cons_self
  simp only [digitB, decide_eq_true_eq] at hc
  have hm : Lib.parseMag (c :: r) = Lib.parseUint10 0 (c :: r) := by unfold Lib.parseMag; rw [if_neg (by simp)]
  unfold Lib.atoiAll
  simp only
  rw [if_neg (by omega), hm]
  rcases digits_no (c :: r) 0 hl with ⟨u, hu⟩ | hu
  ·rw [hu]
   simp only
   split
   ·exact .inr rfl
   split
   ·exact .inr rfl
   exact .inl ⟨_, rfl⟩
  rw [hu]; exact .inr rfl
theorem arg1 {G : List (Nat × List Value)} {X : Nat → Prop} {w : World} {x : Value} {us : List Value} (hp : Pre G X w [] [.v x] us) : us = [x] := by
 obtain ⟨a1, a2⟩ := hp.args
 match us, a1, a2 with
 | [u], _, a2 => have e : u = _ := (a2 0 Nat.zero_lt_one Nat.zero_lt_one).v_eq; rw [e]
theorem atoi_vc {G : List (Nat × List Value)} (s : ByteArray) (hs : s.size ≤ 1000000) (hd : ∀ c ∈ s.data.toList, digitB c = true) (h0 : s.data.toList ≠ []) (hr : Lib.atoiAll s.data.toList = .range → RangeVar G) :
  VC Tryd.prog G 69 [.v (.string s)] [] (fun r S => S = [] ∧ ((∃ v, Lib.atoiAll s.data.toList = .ok v ∧ r = .tup [.v (.int .i64 v), .v .nilIface]) ∨ (Lib.atoiAll s.data.toList = .range ∧ ∃ v te p, r = .tup [.v (.int .i64 v), .v (.iface te p)]))) := fun X w us hp => by
 have hu : us = [.string s] := arg1 hp
 subst hu
 rcases atoi_no hd h0 with ⟨v, ha⟩ | ha
 ·refine (Tryd.strconv_Atoi_ok s (by omega) v ha w).mono fun e w' ⟨h1, h2⟩ => ⟨_, _, [], h1, ⟨rfl, .inl ⟨v, ha, rfl⟩⟩, own0 _ _, pairs _ _, frB ?_⟩
  rcases h2 with rfl | ⟨t, rfl⟩
  ·exact Below.refl _ _
  exact Lib.bytesWorld_below _ _ _
 obtain ⟨ev, hg, hev⟩ := hr ha
 refine (Tryd.strconv_Atoi_range s (by omega) ha ev w (tabCell.cell ((hp.tab _ hg).2 0 _ rfl) (by rcases hev with rfl | ⟨te, pe, rfl⟩ <;> rfl)) hev).mono fun e w' ⟨N, h1, _, _, h2⟩ => ⟨_, _, [], h1, ⟨rfl, .inr ⟨ha, _, _, _, rfl⟩⟩, own0 _ _, pairs _ _, frB h2⟩
variable {G : List (Nat × List Value)}
set_option maxHeartbeats 4000000 in
set_option maxRecDepth 100000 in
theorem one1_vp (c : UInt8) : VP Tryd.prog G 68 [.v (.int .u8 ((c).toNat : Int))] (.v (.bool (wordB c))) := by
 refine VC.body Tryd.func68 rfl Tryd.ntmps68 le_ fun X0 w0 S00 => ?_
 refine sr_ ?_
 refine om_ ?_
 refine nm_ [0] ?_
 refine sr_ ?_
 refine om_ ?_
 refine oc_ Tryd.call39 (letter_vp c) ?_
 refine om_ ?_
 refine OD.split (t := 5) lk (fun hg5 => ?_) (fun hg5 => ?_)
 ·have hg5' := hg5; (try simp only [V.cnd, ne_eq] at hg5')
  refine sk_ ?_
  refine sk_ ?_
  refine os_ pkT_ ?_
  refine om_ ?_
  refine on_ [(2, _)] [] ?_
  refine CD.ret ?_
  refine ⟨.inr rfl, rt_ Tryd.results68 ?_⟩
  exact ⟨vb (by simp [wordB, *]), rfl⟩
 have hg5' := hg5; (try simp only [V.cnd, ne_eq] at hg5')
 refine om_ ?_
 refine OD.callP wt_ rfl rfl rfl Tryd.call41 (digit_vp c) ⟨ot, trivial⟩ ?_
 refine os_ pkF_ ?_
 refine om_ ?_
 refine on_ [(2, _)] [] ?_
 refine CD.ret ?_
 refine ⟨.inr rfl, rt_ Tryd.results68 ?_⟩
 exact ⟨vb (by simp [wordB, *]), rfl⟩

theorem text_step {l acc : List UInt8} {i : Nat} (hi : i < l.length) (hc : l[i] ≠ 39) : textG (l.drop i) acc i = textG (l.drop (i + 1)) (acc ++ [l[i]]) (i + 1) := by
 rw [List.drop_eq_getElem_cons hi]
 cases hr : l.drop (i + 1) with
 | nil => exact if_neg hc
 | cons d r => exact if_neg hc
theorem text_two {l acc : List UInt8} {i : Nat} (hi : i + 1 < l.length) (hc : l[i] = 39) (hd : l[i + 1] = 39) : textG (l.drop i) acc i = textG (l.drop (i + 2)) (acc ++ [l[i + 1]]) (i + 2) := by
 rw [List.drop_eq_getElem_cons (by omega), List.drop_eq_getElem_cons hi, textG, if_pos hc, if_pos hd, hd]
theorem text_end {l acc : List UInt8} {i : Nat} (hi : i < l.length) (hc : l[i] = 39) (hd : i + 1 = l.length ∨ ∃ h : i + 1 < l.length, l[i + 1] ≠ 39) : textG (l.drop i) acc i = (⟨3, ⟨acc.toArray⟩, 0⟩, i + 1, 0) := by
 rw [List.drop_eq_getElem_cons hi]
 cases hr : l.drop (i + 1) with
 | nil => rw [textG, if_pos hc]
 | cons d r =>
  rcases hd with hd | ⟨h, hd⟩
  ·rw [hd, List.drop_length] at hr; cases hr
  rw [List.drop_eq_getElem_cons h] at hr
  cases hr
  rw [textG, if_pos hc, if_neg hd]
theorem text_short {l acc : List UInt8} {i : Nat} (hi : l.length ≤ i) : textG (l.drop i) acc i = (noTk, 0, 7) := by
 rw [List.drop_eq_nil_of_le hi]; rfl

theorem info5_Lx1 : (Tryd.prog.info? 5).map (fun i => (i.zero, i.size, i.bytes)) = some (some (.int .u8 0), 1, 1) := by kernel_rfl

theorem places24_Lx1 : ∀ w, ((#[{ name := "Kind", type := 3, offset := 0, embedded := false, tag := "", pkgPath := "", byteOffset := 0 }, { name := "Text", type := 9, offset := 1, embedded := false, tag := "", pkgPath := "", byteOffset := 8 }, { name := "Int", type := 3, offset := 2, embedded := false, tag := "", pkgPath := "", byteOffset := 24 }] : Array Field).mapM fun f => do pure (f.offset, ← sizeOf f.type) : Sem (Array (Nat × Nat))).run Tryd.prog w = .ok #[(0, 1), (1, 1), (2, 1)] w := fun w => by simp [Tryd.sizeOf3, Tryd.sizeOf9]

set_option maxHeartbeats 4000000 in
set_option maxRecDepth 100000 in
theorem text_vp (s : ByteArray) (hs : s.size ≤ 1000000) : VP Tryd.prog G 70 [.v (.string s)] (tokD (textG (s.data.toList.drop 1) [] 1)) := by
 refine VC.body Tryd.func70 rfl Tryd.ntmps70 le_ fun X0 w0 S00 => ?_
 have hmx : maxLen = 9223372036854775807 := rfl
 have hsl := str_len s
 refine sr_ ?_
 refine OD.alloc (ds := [_, _, _]) wp_ rfl rfl Tryd.zeroValue24 rfl (fun b2 => ?_)
 refine om_ ?_
 refine om_ ?_
 refine on_ [(0, _), (2, _)] [⟨b2, 24, 3, [_, _, _]⟩] ?_
 refine sr_ ?_
 refine om_ ?_
 refine nm_ [0, 2, 5] ?_
 refine CD.seq ?_
 refine sr_ ?_
 refine om_ ?_
 refine nm_ [0, 2, 5, 6] ?_
 refine CD.block ?_
 refine lp_ (fun (gh__ : Nat × List UInt8 × Option Addr × Nat × List Blk) y__ => match gh__ with | (i, acc, adb, cpb, Sb) => (textG (s.data.toList.drop i) acc i = textG (s.data.toList.drop 1) [] 1) ∧ (acc.length ≤ i) ∧ (i ≤ s.size + 1) ∧ (OwnL 5 1 ((acc).flatMap cB) (acc).length adb cpb Sb) ∧ y__ = (⟨43, [(0, .v (.string s)), (2, .v (.pointer (some ⟨b2, 0, none⟩))), (5, .v (.slice adb (acc).length cpb)), (6, .v (.int .i64 (i : Nat)))], ((⟨b2, 24, 3, cT noTk⟩ : Blk) :: Sb)⟩ : St)) (fun (gh__ : Nat × List UInt8 × Option Addr × Nat × List Blk) => match gh__ with | (i, acc, adb, cpb, Sb) => s.size + 1 - i) (1, [], none, 0, []) ⟨rfl, (Nat.zero_le _), (by omega), (OwnL.cast ownL_nil (by first | rfl | simp)), rfl⟩ (Wk.asS rfl su_ (by repeat (first | exact trivial | refine ⟨(by (repeat (first | exact look_hit | (apply look_at; focus (first | rfl | (simp; done) | (congr 2; omega) | (apply row_eq; simp; done))) | (apply look_miss; focus rfl))); done), ?_⟩))) ?_
 rintro ⟨i, acc, adb, cpb, Sb⟩ _ ⟨ht, hal, his, hob, rfl⟩
 refine CD.seq ?_
 refine sr_ ?_
 refine om_ ?_
 refine om_ ?_
 refine os_ (still_slen rfl rfl ot Tryd.runUnderlying9) ?_
 refine os_ bn_ ?_
 refine OD.wk (Wk.as_ (n := 43) (l' := [(0, _), (2, _), (5, _), (6, _), (10, _)]) (S' := (⟨b2, 24, 3, [_, _, _]⟩ :: Sb)) rfl rfl sl_) ?_
 refine OD.nil ?_
 refine CD.cond ot (fun hc0 => ?_) (fun hc0 => ?_)
 ·have hc0' := hc0
  (try simp only [V.cnd, ne_eq] at hc0')
  have hlt : i < s.size := by omega
  have hil : i < s.data.toList.length := by omega
  have hgi := byteAt_get hil
  refine CD.skip ?_
  refine CD.seq ?_
  refine CD.block ?_
  refine CD.seq ?_
  refine sr_ ?_
  have hks : i < s.size := by omega
  have hkc : s[i]? = some (byteAt s (i)) := str_at hks
  refine om_ ?_
  refine om_ ?_
  refine os_ (still_sidx (c := byteAt s i) rfl ot ot Tryd.runUnderlying9 rfl (str_at hlt)) ?_
  refine os_ bn_ ?_
  refine OD.wk (Wk.as_ (n := 43) (l' := [(0, _), (2, _), (5, _), (6, _), (16, _)]) (S' := (⟨b2, 24, 3, [_, _, _]⟩ :: Sb)) rfl rfl sl_) ?_
  refine OD.nil ?_
  refine CD.cond ot (fun hc1 => ?_) (fun hc1 => ?_)
  ·have hc1' := hc1
   (try simp only [V.cnd, ne_eq] at hc1')
   have hq : byteAt s i = 39 := UInt8.toNat_inj.1 (by simp at hc1; show (byteAt s i).toNat = 39; omega)
   refine CD.seq ?_
   refine sr_ ?_
   refine om_ ?_
   refine os_ (still_bin (r := .int .i64 ((i + 1 : Nat) : Int)) rfl ot opd_const (bin_add (by show IntKind.i64.wrap ((i : Int) + 1) = (i : Int) + 1; exact wrap_i64 (by omega) (by omega)))) ?_
   refine om_ ?_
   refine os_ (still_slen rfl rfl ot Tryd.runUnderlying9) ?_
   refine os_ bn_ ?_
   refine om_ ?_
   refine OD.split (t := 22) lk (fun hg22 => ?_) (fun hg22 => ?_)
   ·have hg22' := hg22; (try simp only [V.cnd, ne_eq] at hg22')
    refine sk_ ?_
    refine sk_ ?_
    refine sk_ ?_
    refine sk_ ?_
    refine sk_ ?_
    refine os_ pkT_ ?_
    refine OD.wk (Wk.as_ (n := 43) (l' := [(0, _), (2, _), (5, _), (6, _), (28, _)]) (S' := (⟨b2, 24, 3, [_, _, _]⟩ :: Sb)) rfl rfl sl_) ?_
    refine OD.nil ?_
    refine CD.condT ot (by first | rfl | assumption) ?_
    have hend : textG (s.data.toList.drop i) acc i = (⟨3, ⟨acc.toArray⟩, 0⟩, i + 1, 0) := text_end hil (by rw [hgi]; exact hq) (by first | (left; simp at *; omega) | (right; refine ⟨by omega, fun e => ?_⟩; rw [byteAt_get] at e; simp [e] at *))
    rw [ht] at hend
    refine sr_ ?_
    refine om_ ?_
    refine OD.giveL (t := 29) (Sq := Sb) lk hob (fm_len cB_len _) (perm_r11 (A := [_])) ?_
    first | refine os_ (still_ofBytes rfl ot Tryd.underlying62 Tryd.underlying5 Tryd.underlying9) ?_ | refine OD.still wp_ rfl (still_ofBytesF rfl ot Tryd.underlying62 Tryd.underlying5 Tryd.underlying9) ?_
    refine os_ (still_bld (pl := [(0, _), (1, _)]) (ds := [_, _, _]) rfl Tryd.zeroValue24 Tryd.runUnderlying24 places24_Lx1 ⟨rfl, opd_const, rfl, ot, trivial⟩ rfl rfl) ?_
    refine om_ ?_
    refine os_ bn_ ?_
    refine ot_ 0 [_, _, _] Tryd.sizeOf24 ?_
    refine om_ ?_
    refine om_ ?_
    refine on_ [(2, _), (3, _), (4, _)] [⟨b2, 24, 3, [_, _, _]⟩] ?_
    refine CD.ret ?_
    refine ⟨.inr rfl, _, [], List.nil_sublist _, ret_three Tryd.results70 (res_cells (k := 0) (ds := [_, _, _]) le_ lk rfl rfl Tryd.isAgg24 Tryd.sizeOf24 rfl rfl) (res_tmp le_ lk) (res_tmp le_ lk), ?_⟩
    first | (rw [hend]; exact ⟨rfl, rfl⟩) | (rw [hshort]; exact ⟨rfl, rfl⟩)
   have hg22' := hg22; (try simp only [V.cnd, ne_eq] at hg22')
   refine om_ ?_
   refine om_ ?_
   have hi1 : i + 1 < s.size := by simp at *; omega
   refine OD.still wt_ rfl (still_bin (r := .int .i64 ((i + 1 : Nat) : Int)) rfl ot opd_const (bin_add (by show IntKind.i64.wrap ((i : Int) + 1) = (i : Int) + 1; exact wrap_i64 (by omega) (by omega)))) ?_
   refine OD.still wt_ rfl (still_sidx (c := byteAt s (i + 1)) rfl ot ot Tryd.runUnderlying9 rfl (str_at hi1)) ?_
   refine os_ bn_ ?_
   refine os_ pkF_ ?_
   refine OD.wk (Wk.as_ (n := 43) (l' := [(0, _), (2, _), (5, _), (6, _), (28, _)]) (S' := (⟨b2, 24, 3, [_, _, _]⟩ :: Sb)) rfl rfl sl_) ?_
   refine OD.nil ?_
   refine CD.cond ot (fun hc2 => ?_) (fun hc2 => ?_)
   ·have hc2' := hc2
    (try simp only [V.cnd, ne_eq] at hc2')
    have hend : textG (s.data.toList.drop i) acc i = (⟨3, ⟨acc.toArray⟩, 0⟩, i + 1, 0) := text_end hil (by rw [hgi]; exact hq) (by first | (left; simp at *; omega) | (right; refine ⟨by omega, fun e => ?_⟩; rw [byteAt_get] at e; simp [e] at *))
    rw [ht] at hend
    refine sr_ ?_
    refine om_ ?_
    refine OD.giveL (t := 29) (Sq := Sb) lk hob (fm_len cB_len _) (perm_r11 (A := [_])) ?_
    first | refine os_ (still_ofBytes rfl ot Tryd.underlying62 Tryd.underlying5 Tryd.underlying9) ?_ | refine OD.still wp_ rfl (still_ofBytesF rfl ot Tryd.underlying62 Tryd.underlying5 Tryd.underlying9) ?_
    refine os_ (still_bld (pl := [(0, _), (1, _)]) (ds := [_, _, _]) rfl Tryd.zeroValue24 Tryd.runUnderlying24 places24_Lx1 ⟨rfl, opd_const, rfl, ot, trivial⟩ rfl rfl) ?_
    refine om_ ?_
    refine os_ bn_ ?_
    refine ot_ 0 [_, _, _] Tryd.sizeOf24 ?_
    refine om_ ?_
    refine om_ ?_
    refine on_ [(2, _), (3, _), (4, _)] [⟨b2, 24, 3, [_, _, _]⟩] ?_
    refine CD.ret ?_
    refine ⟨.inr rfl, _, [], List.nil_sublist _, ret_three Tryd.results70 (res_cells (k := 0) (ds := [_, _, _]) le_ lk rfl rfl Tryd.isAgg24 Tryd.sizeOf24 rfl rfl) (res_tmp le_ lk) (res_tmp le_ lk), ?_⟩
    first | (rw [hend]; exact ⟨rfl, rfl⟩) | (rw [hshort]; exact ⟨rfl, rfl⟩)
   have hc2' := hc2
   (try simp only [V.cnd, ne_eq] at hc2')
   have hi1 : i + 1 < s.size := by simp at *; omega
   have hil1 : i + 1 < s.data.toList.length := by omega
   have hgi1 := byteAt_get hil1
   have hq1 : byteAt s (i + 1) = 39 := UInt8.toNat_inj.1 (by simp at *; show (byteAt s (i + 1)).toNat = 39; omega)
   have hst := text_two (acc := acc) hil1 (by rw [hgi]; exact hq) (by rw [hgi1]; exact hq1)
   rw [hgi1] at hst
   refine CD.skip ?_
   refine CD.region ?_
   refine om_ ?_
   refine os_ (still_bin (r := .int .i64 ((i + 1 : Nat) : Int)) rfl ot opd_const (bin_add (by show IntKind.i64.wrap ((i : Int) + 1) = (i : Int) + 1; exact wrap_i64 (by omega) (by omega)))) ?_
   refine om_ ?_
   refine OD.wk (Wk.as_ (n := 43) (l' := [(0, _), (2, _), (5, _), (6, _)]) (S' := (⟨b2, 24, 3, [_, _, _]⟩ :: Sb)) rfl rfl sl_) ?_
   refine OD.nil ?_
   refine CD.region ?_
   refine om_ ?_
   refine om_ ?_
   refine om_ ?_
   refine os_ (still_sidx (c := byteAt s (i + 1)) rfl ot ot Tryd.runUnderlying9 rfl (str_at hi1)) ?_
   refine ob_ (numD 0 [_]) [.int .u8 0] [_] Tryd.zeroValue5 Tryd.runUnderlying62 Tryd.sizeOf5 (fun b40 => ?_)
   refine og_ 0 40 1 1 ?_
   refine OD.appendG (ls := (acc)) (new := [byteAt s (i + 1)]) (Sq := Sb) cB_len cB_one wp_ rfl rfl Tryd.underlying62 info5_Lx1 rfl (by decide) ot hob (perm_r11 (A := [_])) ot (by simp) (by simp [maxLen]; omega) (by simp; omega) (fun b41 cp41 h141 h241 => ?_)
   refine OD.perm (perm_q11 (S1 := [⟨b41, 5, cp41 * 1, List.flatMap cB ((acc) ++ [byteAt s (i + 1)])⟩]) (A := [_])) ?_
   refine om_ ?_
   refine OD.wk (Wk.as_ (n := 43) (l' := [(0, _), (2, _), (5, _), (6, _)]) (S' := (⟨b2, 24, 3, [_, _, _]⟩ :: [⟨b41, 5, cp41 * 1, List.flatMap cB ((acc) ++ [byteAt s (i + 1)])⟩])) rfl rfl sl_) ?_
   refine OD.nil ?_
   refine CD.region ?_
   refine om_ ?_
   refine os_ bn_ ?_
   refine om_ ?_
   refine nm_ [0, 2, 5, 6] ?_
   refine ⟨((i + 2), (acc ++ [byteAt s (i + 1)]), (some ⟨b41, 0, none⟩), cp41, [⟨b41, 5, cp41 * 1, List.flatMap cB ((acc) ++ [byteAt s (i + 1)])⟩]), _, ?_, ?_, (hst.symm.trans ht), (by simp; omega), (by omega), (OwnL.cast (ownL_row h141 h241) (by first | rfl | simp)), rfl⟩
   ·first | omega | (simp only []; omega)
   exact Wk.asS (n := 43) rfl su_ (by repeat (first | exact trivial | refine ⟨(by (repeat (first | exact look_hit | (apply look_at; focus (first | rfl | (simp; done) | (congr 2; omega) | (apply row_eq; simp; done))) | (apply look_miss; focus rfl))); done), ?_⟩))
  have hc1' := hc1
  (try simp only [V.cnd, ne_eq] at hc1')
  have hq : byteAt s i ≠ 39 := fun e => by rw [e] at hc1; simp at hc1
  have hst := text_step (acc := acc) hil (by rw [hgi]; exact hq)
  rw [hgi] at hst
  refine CD.skip ?_
  refine CD.region ?_
  refine om_ ?_
  refine om_ ?_
  refine om_ ?_
  refine os_ (still_sidx (c := byteAt s i) rfl ot ot Tryd.runUnderlying9 rfl (str_at hlt)) ?_
  refine ob_ (numD 0 [_]) [.int .u8 0] [_] Tryd.zeroValue5 Tryd.runUnderlying62 Tryd.sizeOf5 (fun b40 => ?_)
  refine og_ 0 40 1 1 ?_
  refine OD.appendG (ls := (acc)) (new := [byteAt s i]) (Sq := Sb) cB_len cB_one wp_ rfl rfl Tryd.underlying62 info5_Lx1 rfl (by decide) ot hob (perm_r11 (A := [_])) ot (by simp) (by simp [maxLen]; omega) (by simp; omega) (fun b41 cp41 h141 h241 => ?_)
  refine OD.perm (perm_q11 (S1 := [⟨b41, 5, cp41 * 1, List.flatMap cB ((acc) ++ [byteAt s i])⟩]) (A := [_])) ?_
  refine om_ ?_
  refine OD.wk (Wk.as_ (n := 43) (l' := [(0, _), (2, _), (5, _), (6, _)]) (S' := (⟨b2, 24, 3, [_, _, _]⟩ :: [⟨b41, 5, cp41 * 1, List.flatMap cB ((acc) ++ [byteAt s i])⟩])) rfl rfl sl_) ?_
  refine OD.nil ?_
  refine CD.region ?_
  refine om_ ?_
  refine os_ bn_ ?_
  refine om_ ?_
  refine nm_ [0, 2, 5, 6] ?_
  refine ⟨((i + 1), (acc ++ [byteAt s i]), (some ⟨b41, 0, none⟩), cp41, [⟨b41, 5, cp41 * 1, List.flatMap cB ((acc) ++ [byteAt s i])⟩]), _, ?_, ?_, (hst.symm.trans ht), (by simp; omega), (by omega), (OwnL.cast (ownL_row h141 h241) (by first | rfl | simp)), rfl⟩
  ·first | omega | (simp only []; omega)
  exact Wk.asS (n := 43) rfl su_ (by repeat (first | exact trivial | refine ⟨(by (repeat (first | exact look_hit | (apply look_at; focus (first | rfl | (simp; done) | (congr 2; omega) | (apply row_eq; simp; done))) | (apply look_miss; focus rfl))); done), ?_⟩))
 have hc0' := hc0
 (try simp only [V.cnd, ne_eq] at hc0')
 have hshort := text_short (acc := acc) (show s.data.toList.length ≤ i by omega)
 rw [ht] at hshort
 refine CD.exit ?_
 refine sr_ ?_
 refine os_ (still_bld (pl := []) (ds := [_, _, _]) rfl Tryd.zeroValue24 Tryd.runUnderlying24 places24_Lx1 trivial rfl rfl) ?_
 refine ot_ 0 [_, _, _] Tryd.sizeOf24 ?_
 refine om_ ?_
 refine om_ ?_
 refine OD.wk (Wk.as_ (n := 43) (l' := [(2, _), (3, _), (4, _)]) (S' := (⟨b2, 24, 3, [_, _, _]⟩ :: Sb)) rfl rfl sl_) ?_
 refine OD.nil ?_
 refine CD.ret ?_
 refine ⟨.inr rfl, _, [], List.nil_sublist _, ret_three Tryd.results70 (res_cells (k := 0) (ds := [_, _, _]) le_ lk rfl rfl Tryd.isAgg24 Tryd.sizeOf24 rfl rfl) (res_tmp le_ lk) (res_tmp le_ lk), ?_⟩
 first | (rw [hend]; exact ⟨rfl, rfl⟩) | (rw [hshort]; exact ⟨rfl, rfl⟩)

theorem span_len (p : UInt8 → Bool) (s : ByteArray) : spanN p s ≤ s.size := by
 rw [← str_len s]
 exact (List.takeWhile_prefix p).length_le
theorem ext_span (p : UInt8 → Bool) (s : ByteArray) : (s.extract 0 (spanN p s)).data.toList = s.data.toList.takeWhile p := by
 rw [ByteArray.data_extract, Array.toList_extract]
 have := List.prefix_iff_eq_take.1 (List.takeWhile_prefix (l := s.data.toList) p)
 show (s.data.toList.drop 0).take (spanN p s - 0) = _
 rw [List.drop_zero, Nat.sub_zero]
 exact this.symm
theorem byte0 (s : ByteArray) : s.data.toList.getD 0 0 = byteAt s 0 := rfl
theorem one_word {s : ByteArray} (h : letterB (byteAt s 0) = true) : oneF s.data.toList = (⟨1, s.extract 0 (spanN wordB s), 0⟩, spanN wordB s, 0) := by
 unfold oneF
 rw [byte0, if_pos h]
 have : s.extract 0 (spanN wordB s) = ⟨(s.data.toList.takeWhile wordB).toArray⟩ := str_ext (by rw [ext_span])
 rw [this]; rfl
theorem after_eq (s : ByteArray) : afterL s.data.toList = (decide (spanN digitB s < s.size) && letterB (byteAt s (spanN digitB s))) := by
 unfold afterL
 have ht : s.data.toList.dropWhile digitB = s.data.toList.drop (spanN digitB s) := by
  have h1 := List.takeWhile_append_dropWhile (p := digitB) (l := s.data.toList)
  conv => rhs; rw [← h1]
  exact (List.drop_left).symm
 rw [ht]
 by_cases h : spanN digitB s < s.size
 ·have hl : spanN digitB s < s.data.toList.length := by rw [str_len]; exact h
  rw [List.drop_eq_getElem_cons hl, byteAt_get hl]
  simp [h]
 rw [List.drop_eq_nil_of_le (by rw [str_len]; omega)]
 simp [h]
theorem one_after {s : ByteArray} (h0 : letterB (byteAt s 0) = false) (h1 : digitB (byteAt s 0) = true) (h2 : (decide (spanN digitB s < s.size) && letterB (byteAt s (spanN digitB s))) = true) : oneF s.data.toList = (noTk, 0, 6) := by
 unfold oneF
 rw [byte0, if_neg (by rw [h0]; simp), if_pos h1, after_eq, if_pos h2]
theorem one_num {s : ByteArray} (h0 : letterB (byteAt s 0) = false) (h1 : digitB (byteAt s 0) = true) (h2 : (decide (spanN digitB s < s.size) && letterB (byteAt s (spanN digitB s))) = false) : oneF s.data.toList = numL s.data.toList := by
 unfold oneF
 rw [byte0, if_neg (by rw [h0]; simp), if_pos h1, after_eq, if_neg (by rw [h2]; simp)]
theorem num_ok {s : ByteArray} {v : Int} (h : Lib.atoiAll (s.extract 0 (spanN digitB s)).data.toList = .ok v) : numL s.data.toList = (⟨2, ⟨#[]⟩, v⟩, spanN digitB s, 0) := by
 rw [ext_span] at h
 unfold numL
 rw [h]; rfl
theorem num_over {s : ByteArray} (h : Lib.atoiAll (s.extract 0 (spanN digitB s)).data.toList = .range) : numL s.data.toList = (noTk, 0, 5) := by
 rw [ext_span] at h
 unfold numL
 rw [h]
theorem one_text {s : ByteArray} (h0 : letterB (byteAt s 0) = false) (h1 : digitB (byteAt s 0) = false) (h2 : byteAt s 0 = 39) : oneF s.data.toList = textG (s.data.toList.drop 1) [] 1 := by
 unfold oneF
 rw [byte0, if_neg (by rw [h0]; simp), if_neg (by rw [h1]; simp), if_pos h2]
theorem one_mark {s : ByteArray} (h0 : letterB (byteAt s 0) = false) (h1 : digitB (byteAt s 0) = false) (h2 : byteAt s 0 ≠ 39) : oneF s.data.toList = markL s.data.toList := by
 unfold oneF
 rw [byte0, if_neg (by rw [h0]; simp), if_neg (by rw [h1]; simp), if_neg h2]
theorem mark_hit {l : List UInt8} {k : Nat} (hk : k < marksB.length) (h0 : ∀ m ∈ marksB.take k, m.isPrefixOf l = false) (h1 : marksB[k].isPrefixOf l = true) : markL l = (⟨4, ⟨marksB[k].toArray⟩, 0⟩, marksB[k].length, 0) := by
 have : marksB.find? (fun m => m.isPrefixOf l) = some marksB[k] := by
  rw [List.find?_eq_some_iff_getElem]
  refine ⟨h1, k, hk, rfl, fun j hj => ?_⟩
  have := h0 marksB[j] (List.mem_take_iff_getElem.2 ⟨j, by omega, rfl⟩)
  rw [this]; rfl
 unfold markL
 rw [this]
theorem mark_none {l : List UInt8} (h0 : ∀ m ∈ marksB.take 12, m.isPrefixOf l = false) : markL l = (noTk, 0, 6) := by
 have : marksB.find? (fun m => m.isPrefixOf l) = none := by
  rw [List.find?_eq_none]
  intro m hm; rw [h0 m hm]; simp
 unfold markL
 rw [this]
theorem marks_at {k : Nat} (hk : k < marksB.length) : (marksC.map D.v)[k * 1]? = some (.v (.string ⟨marksB[k].toArray⟩)) := by
 have h2 : k < (marksC.map D.v).length := by rw [List.length_map]; exact hk
 rw [Nat.mul_one, List.getElem?_eq_getElem h2]
 simp [marksC, marksL]
theorem pref_vp (s p : ByteArray) : VP Tryd.prog G 71 [.v (.string s), .v (.string p)] (.v (.bool (p.data.toList.isPrefixOf s.data.toList))) :=
 VP.ofCalls (P := Tryd.prog) (G := G) (f := 71) (vs := [.string s, .string p]) (v := .bool (p.data.toList.isPrefixOf s.data.toList)) fun w _ =>
  (Tryd.strings_HasPrefix s p w).mono fun e w' ⟨h1, h2⟩ => ⟨h1, h2 ▸ Below.refl _ _⟩

theorem takeW_all (p : UInt8 → Bool) : ∀ (l : List UInt8) (c : UInt8), c ∈ l.takeWhile p → p c = true
 | [], c, h => by cases h
 | a :: r, c, h => by
  rw [List.takeWhile_cons] at h
  split at h
  ·rcases List.mem_cons.1 h with rfl | h
   ·assumption
   exact takeW_all p r c h
  cases h
theorem takeW_ne {p : UInt8 → Bool} {l : List UInt8} (h : p (l.getD 0 0) = true) (h0 : 0 < l.length) : l.takeWhile p ≠ [] := by
 match l, h0 with
 | a :: r, _ =>
  have h : p a = true := h
  rw [List.takeWhile_cons, if_pos h]; simp

set_option maxHeartbeats 4000000 in
set_option maxRecDepth 100000 in
theorem one_vp (hm : (0, marksC) ∈ G) (s : ByteArray) (h0 : 0 < s.size) (hs : s.size ≤ 1000000) (hov : (oneF s.data.toList).2.2 = 5 → RangeVar G) : VP Tryd.prog G 38 [.v (.string s)] (tokD (oneF s.data.toList)) := by
 refine VC.body Tryd.func38 rfl Tryd.ntmps38 le_ fun X0 w0 S00 => ?_
 have hmx : maxLen = 9223372036854775807 := rfl
 have hw1 := span_len wordB s
 have hw2 := span_len digitB s
 refine sr_ ?_
 refine OD.alloc (ds := [_, _, _]) wp_ rfl rfl Tryd.zeroValue24 rfl (fun b2 => ?_)
 refine om_ ?_
 refine om_ ?_
 refine on_ [(0, _), (2, _)] [⟨b2, 24, 3, [_, _, _]⟩] ?_
 refine CD.seq ?_
 refine CD.block ?_
 refine sr_ ?_
 refine om_ ?_
 refine os_ (still_sidx (c := byteAt s 0) rfl ot opd_const Tryd.runUnderlying9 rfl (str_at h0)) ?_
 refine oc_ Tryd.call39 (letter_vp _) ?_
 refine om_ ?_
 refine on_ [(0, _), (2, _), (11, _)] [⟨b2, 24, 3, [_, _, _]⟩] ?_
 refine CD.cond ot (fun hc0 => ?_) (fun hc0 => ?_)
 ·have hc0' := hc0
  (try simp only [V.cnd, ne_eq] at hc0')
  have hone := one_word hc0
  refine sr_ ?_
  refine om_ ?_
  refine oc_ Tryd.call36 (span_vp s 68 wordB Tryd.call68 one1_vp (by omega)) ?_
  refine om_ ?_
  refine on_ [(0, _), (2, _), (5, _)] [⟨b2, 24, 3, [_, _, _]⟩] ?_
  refine sr_ ?_
  refine om_ ?_
  refine om_ ?_
  refine os_ (still_rs (l := 0) (h := spanN wordB s) rfl ot trivial ⟨_, ot⟩ (by first | exact sl_str (fun _ => rfl) (fun h => by cases h) Tryd.runUnderlying9 (by omega) (by omega))) ?_
  refine os_ (still_bld (pl := [(0, _), (1, _)]) (ds := [_, _, _]) rfl Tryd.zeroValue24 Tryd.runUnderlying24 places24_Lx1 ⟨rfl, opd_const, rfl, ot, trivial⟩ rfl rfl) ?_
  refine om_ ?_
  refine ot_ 0 [_, _, _] Tryd.sizeOf24 ?_
  refine om_ ?_
  refine om_ ?_
  refine on_ [(2, _), (3, _), (4, _)] [⟨b2, 24, 3, [_, _, _]⟩] ?_
  refine CD.ret ?_
  refine ⟨.inr rfl, _, [], List.nil_sublist _, ret_three Tryd.results38 (res_cells (k := 0) (ds := [_, _, _]) le_ lk rfl rfl Tryd.isAgg24 Tryd.sizeOf24 rfl rfl) (res_tmp le_ lk) (res_tmp le_ lk), ?_⟩
  rw [hone]; exact ⟨rfl, rfl⟩
 have hc0' := hc0
 (try simp only [V.cnd, ne_eq] at hc0')
 have hl0 : letterB (byteAt s 0) = false := hc0
 refine sr_ ?_
 refine om_ ?_
 refine os_ (still_sidx (c := byteAt s 0) rfl ot opd_const Tryd.runUnderlying9 rfl (str_at h0)) ?_
 refine oc_ Tryd.call41 (digit_vp _) ?_
 refine om_ ?_
 refine on_ [(0, _), (2, _), (22, _)] [⟨b2, 24, 3, [_, _, _]⟩] ?_
 refine CD.cond ot (fun hc1 => ?_) (fun hc1 => ?_)
 ·have hc1' := hc1
  (try simp only [V.cnd, ne_eq] at hc1')
  have hd0 : digitB (byteAt s 0) = true := hc1
  refine sr_ ?_
  refine om_ ?_
  refine oc_ Tryd.call36 (span_vp s 41 digitB Tryd.call41 digit_vp (by omega)) ?_
  refine om_ ?_
  refine on_ [(0, _), (2, _), (6, _)] [⟨b2, 24, 3, [_, _, _]⟩] ?_
  refine CD.seq ?_
  refine sr_ ?_
  refine om_ ?_
  refine om_ ?_
  refine os_ (still_slen rfl rfl ot Tryd.runUnderlying9) ?_
  refine os_ bn_ ?_
  refine om_ ?_
  refine OD.split (t := 32) lk (fun hg32 => ?_) (fun hg32 => ?_)
  ·have hg32' := hg32; (try simp only [V.cnd, ne_eq] at hg32')
   have hsn : spanN digitB s < s.size := by simp at *; omega
   refine om_ ?_
   refine om_ ?_
   refine OD.still wt_ rfl (still_sidx (c := byteAt s (spanN digitB s)) rfl ot ot Tryd.runUnderlying9 rfl (str_at hsn)) ?_
   refine OD.callP wt_ rfl rfl rfl Tryd.call39 (letter_vp _) ⟨ot, trivial⟩ ?_
   refine os_ pkT_ ?_
   refine on_ [(0, _), (2, _), (6, _), (37, _)] [⟨b2, 24, 3, [_, _, _]⟩] ?_
   refine CD.cond ot (fun hc2 => ?_) (fun hc2 => ?_)
   ·have hc2' := hc2
    (try simp only [V.cnd, ne_eq] at hc2')
    have hone := one_after hl0 hd0 (by simp at *; simp [*])
    refine sr_ ?_
    refine os_ (still_bld (pl := []) (ds := [_, _, _]) rfl Tryd.zeroValue24 Tryd.runUnderlying24 places24_Lx1 trivial rfl rfl) ?_
    refine ot_ 0 [_, _, _] Tryd.sizeOf24 ?_
    refine om_ ?_
    refine om_ ?_
    refine on_ [(2, _), (3, _), (4, _)] [⟨b2, 24, 3, [_, _, _]⟩] ?_
    refine CD.ret ?_
    refine ⟨.inr rfl, _, [], List.nil_sublist _, ret_three Tryd.results38 (res_cells (k := 0) (ds := [_, _, _]) le_ lk rfl rfl Tryd.isAgg24 Tryd.sizeOf24 rfl rfl) (res_tmp le_ lk) (res_tmp le_ lk), ?_⟩
    rw [hone]; exact ⟨rfl, rfl⟩
   have hc2' := hc2
   (try simp only [V.cnd, ne_eq] at hc2')
   have ha0 : (decide (spanN digitB s < s.size) && letterB (byteAt s (spanN digitB s))) = false := by first | (rw [hc2]; simp; done) | (simp at *; simp [*]; done) | (simp at *; omega)
   refine CD.skip ?_
   refine sr_ ?_
   refine om_ ?_
   refine om_ ?_
   refine os_ (still_rs (l := 0) (h := spanN digitB s) rfl ot trivial ⟨_, ot⟩ (by first | exact sl_str (fun _ => rfl) (fun h => by cases h) Tryd.runUnderlying9 (by omega) (by omega))) ?_
   refine OD.call wp_ rfl rfl rfl Tryd.call69 (atoi_vc (s.extract 0 (spanN digitB s)) (by rw [← str_len, ext_span]; have := (List.takeWhile_prefix (l := s.data.toList) digitB).length_le; rw [str_len] at this; omega) (by rw [ext_span]; intro c hc; exact takeW_all _ _ c hc) (by rw [ext_span]; exact takeW_ne (by rw [byte0]; exact hd0) (by rw [str_len]; exact h0)) (fun hr => hov (by rw [one_num hl0 hd0 ha0, num_over hr]))) ⟨ot, trivial⟩ (perm_none _) ?_
   rintro _ S43 ⟨rfl, h43⟩
   rcases h43 with ⟨v, hv, rfl⟩ | ⟨hv, v, te, pe, rfl⟩
   ·skip
    have hn1 := num_ok hv
    have hone := one_num hl0 hd0 ha0
    rw [hn1] at hone
    refine om_ ?_
    refine os_ ex_ ?_
    refine os_ ex_ ?_
    refine om_ ?_
    refine om_ ?_
    refine on_ [(2, _), (6, _), (7, _), (8, _)] [⟨b2, 24, 3, [_, _, _]⟩] ?_
    refine CD.seq ?_
    refine sr_ ?_
    refine om_ ?_
    refine os_ (still_errNo rfl ot Tryd.underlying109) ?_
    refine on_ [(2, _), (6, _), (7, _), (47, _)] [⟨b2, 24, 3, [_, _, _]⟩] ?_
    refine CD.cond ot (fun hc3 => ?_) (fun hc3 => ?_)
    ·exact absurd hc3 (by simp at hc3)
    refine CD.skip ?_
    refine sr_ ?_
    refine om_ ?_
    refine os_ (still_bld (pl := [(0, _), (2, _)]) (ds := [_, _, _]) rfl Tryd.zeroValue24 Tryd.runUnderlying24 places24_Lx1 ⟨rfl, opd_const, rfl, ot, trivial⟩ rfl rfl) ?_
    refine om_ ?_
    refine ot_ 0 [_, _, _] Tryd.sizeOf24 ?_
    refine om_ ?_
    refine om_ ?_
    refine on_ [(2, _), (3, _), (4, _)] [⟨b2, 24, 3, [_, _, _]⟩] ?_
    refine CD.ret ?_
    refine ⟨.inr rfl, _, [], List.nil_sublist _, ret_three Tryd.results38 (res_cells (k := 0) (ds := [_, _, _]) le_ lk rfl rfl Tryd.isAgg24 Tryd.sizeOf24 rfl rfl) (res_tmp le_ lk) (res_tmp le_ lk), ?_⟩
    rw [hone]; exact ⟨rfl, rfl⟩
   have hn1 := num_over hv
   have hone := one_num hl0 hd0 ha0
   rw [hn1] at hone
   refine om_ ?_
   refine os_ ex_ ?_
   refine os_ ex_ ?_
   refine om_ ?_
   refine om_ ?_
   refine on_ [(2, _), (6, _), (7, _), (8, _)] [⟨b2, 24, 3, [_, _, _]⟩] ?_
   refine CD.seq ?_
   refine sr_ ?_
   refine om_ ?_
   refine os_ (still_errYes rfl ot Tryd.underlying109) ?_
   refine on_ [(2, _), (6, _), (7, _), (47, _)] [⟨b2, 24, 3, [_, _, _]⟩] ?_
   refine CD.cond ot (fun hc3 => ?_) (fun hc3 => ?_)
   ·refine sr_ ?_
    refine os_ (still_bld (pl := []) (ds := [_, _, _]) rfl Tryd.zeroValue24 Tryd.runUnderlying24 places24_Lx1 trivial rfl rfl) ?_
    refine ot_ 0 [_, _, _] Tryd.sizeOf24 ?_
    refine om_ ?_
    refine om_ ?_
    refine on_ [(2, _), (3, _), (4, _)] [⟨b2, 24, 3, [_, _, _]⟩] ?_
    refine CD.ret ?_
    refine ⟨.inr rfl, _, [], List.nil_sublist _, ret_three Tryd.results38 (res_cells (k := 0) (ds := [_, _, _]) le_ lk rfl rfl Tryd.isAgg24 Tryd.sizeOf24 rfl rfl) (res_tmp le_ lk) (res_tmp le_ lk), ?_⟩
    rw [hone]; exact ⟨rfl, rfl⟩
   exact absurd hc3 (by simp at hc3)
  have hg32' := hg32; (try simp only [V.cnd, ne_eq] at hg32')
  refine sk_ ?_
  refine sk_ ?_
  refine sk_ ?_
  refine sk_ ?_
  refine os_ pkF_ ?_
  refine on_ [(0, _), (2, _), (6, _), (37, _)] [⟨b2, 24, 3, [_, _, _]⟩] ?_
  refine CD.condF ot (by first | rfl | assumption) ?_
  have ha0 : (decide (spanN digitB s < s.size) && letterB (byteAt s (spanN digitB s))) = false := by first | (rw [hc2]; simp; done) | (simp at *; simp [*]; done) | (simp at *; omega)
  refine CD.skip ?_
  refine sr_ ?_
  refine om_ ?_
  refine om_ ?_
  refine os_ (still_rs (l := 0) (h := spanN digitB s) rfl ot trivial ⟨_, ot⟩ (by first | exact sl_str (fun _ => rfl) (fun h => by cases h) Tryd.runUnderlying9 (by omega) (by omega))) ?_
  refine OD.call wp_ rfl rfl rfl Tryd.call69 (atoi_vc (s.extract 0 (spanN digitB s)) (by rw [← str_len, ext_span]; have := (List.takeWhile_prefix (l := s.data.toList) digitB).length_le; rw [str_len] at this; omega) (by rw [ext_span]; intro c hc; exact takeW_all _ _ c hc) (by rw [ext_span]; exact takeW_ne (by rw [byte0]; exact hd0) (by rw [str_len]; exact h0)) (fun hr => hov (by rw [one_num hl0 hd0 ha0, num_over hr]))) ⟨ot, trivial⟩ (perm_none _) ?_
  rintro _ S43 ⟨rfl, h43⟩
  rcases h43 with ⟨v, hv, rfl⟩ | ⟨hv, v, te, pe, rfl⟩
  ·skip
   have hn1 := num_ok hv
   have hone := one_num hl0 hd0 ha0
   rw [hn1] at hone
   refine om_ ?_
   refine os_ ex_ ?_
   refine os_ ex_ ?_
   refine om_ ?_
   refine om_ ?_
   refine on_ [(2, _), (6, _), (7, _), (8, _)] [⟨b2, 24, 3, [_, _, _]⟩] ?_
   refine CD.seq ?_
   refine sr_ ?_
   refine om_ ?_
   refine os_ (still_errNo rfl ot Tryd.underlying109) ?_
   refine on_ [(2, _), (6, _), (7, _), (47, _)] [⟨b2, 24, 3, [_, _, _]⟩] ?_
   refine CD.cond ot (fun hc3 => ?_) (fun hc3 => ?_)
   ·exact absurd hc3 (by simp at hc3)
   refine CD.skip ?_
   refine sr_ ?_
   refine om_ ?_
   refine os_ (still_bld (pl := [(0, _), (2, _)]) (ds := [_, _, _]) rfl Tryd.zeroValue24 Tryd.runUnderlying24 places24_Lx1 ⟨rfl, opd_const, rfl, ot, trivial⟩ rfl rfl) ?_
   refine om_ ?_
   refine ot_ 0 [_, _, _] Tryd.sizeOf24 ?_
   refine om_ ?_
   refine om_ ?_
   refine on_ [(2, _), (3, _), (4, _)] [⟨b2, 24, 3, [_, _, _]⟩] ?_
   refine CD.ret ?_
   refine ⟨.inr rfl, _, [], List.nil_sublist _, ret_three Tryd.results38 (res_cells (k := 0) (ds := [_, _, _]) le_ lk rfl rfl Tryd.isAgg24 Tryd.sizeOf24 rfl rfl) (res_tmp le_ lk) (res_tmp le_ lk), ?_⟩
   rw [hone]; exact ⟨rfl, rfl⟩
  have hn1 := num_over hv
  have hone := one_num hl0 hd0 ha0
  rw [hn1] at hone
  refine om_ ?_
  refine os_ ex_ ?_
  refine os_ ex_ ?_
  refine om_ ?_
  refine om_ ?_
  refine on_ [(2, _), (6, _), (7, _), (8, _)] [⟨b2, 24, 3, [_, _, _]⟩] ?_
  refine CD.seq ?_
  refine sr_ ?_
  refine om_ ?_
  refine os_ (still_errYes rfl ot Tryd.underlying109) ?_
  refine on_ [(2, _), (6, _), (7, _), (47, _)] [⟨b2, 24, 3, [_, _, _]⟩] ?_
  refine CD.cond ot (fun hc3 => ?_) (fun hc3 => ?_)
  ·refine sr_ ?_
   refine os_ (still_bld (pl := []) (ds := [_, _, _]) rfl Tryd.zeroValue24 Tryd.runUnderlying24 places24_Lx1 trivial rfl rfl) ?_
   refine ot_ 0 [_, _, _] Tryd.sizeOf24 ?_
   refine om_ ?_
   refine om_ ?_
   refine on_ [(2, _), (3, _), (4, _)] [⟨b2, 24, 3, [_, _, _]⟩] ?_
   refine CD.ret ?_
   refine ⟨.inr rfl, _, [], List.nil_sublist _, ret_three Tryd.results38 (res_cells (k := 0) (ds := [_, _, _]) le_ lk rfl rfl Tryd.isAgg24 Tryd.sizeOf24 rfl rfl) (res_tmp le_ lk) (res_tmp le_ lk), ?_⟩
   rw [hone]; exact ⟨rfl, rfl⟩
  exact absurd hc3 (by simp at hc3)
 have hc1' := hc1
 (try simp only [V.cnd, ne_eq] at hc1')
 have hd0 : digitB (byteAt s 0) = false := hc1
 refine sr_ ?_
 refine om_ ?_
 refine os_ (still_sidx (c := byteAt s 0) rfl ot opd_const Tryd.runUnderlying9 rfl (str_at h0)) ?_
 refine os_ bn_ ?_
 refine om_ ?_
 refine on_ [(0, _), (2, _), (52, _)] [⟨b2, 24, 3, [_, _, _]⟩] ?_
 refine CD.cond ot (fun hc4 => ?_) (fun hc4 => ?_)
 ·have hc4' := hc4
  (try simp only [V.cnd, ne_eq] at hc4')
  have hq : byteAt s 0 = 39 := UInt8.toNat_inj.1 (by simp at hc4; show (byteAt s 0).toNat = 39; omega)
  have hone := one_text hl0 hd0 hq
  refine sr_ ?_
  refine om_ ?_
  refine oc_ Tryd.call70 (text_vp s hs) ?_
  refine os_ ex_ ?_
  refine os_ ex_ ?_
  refine os_ ex_ ?_
  refine ot_ 0 [_, _, _] Tryd.sizeOf24 ?_
  refine om_ ?_
  refine om_ ?_
  refine on_ [(2, _), (3, _), (4, _)] [⟨b2, 24, 3, [_, _, _]⟩] ?_
  refine CD.ret ?_
  refine ⟨.inr rfl, _, [], List.nil_sublist _, ret_three Tryd.results38 (res_cells (k := 0) (ds := [_, _, _]) le_ lk rfl rfl Tryd.isAgg24 Tryd.sizeOf24 rfl rfl) (res_tmp le_ lk) (res_tmp le_ lk), ?_⟩
  rw [hone]; exact ⟨rfl, rfl⟩
 have hc4' := hc4
 (try simp only [V.cnd, ne_eq] at hc4')
 have hq : byteAt s 0 ≠ 39 := fun e => by rw [e] at hc4; simp at hc4
 have hone := one_mark hl0 hd0 hq
 refine CD.skip ?_
 refine CD.seq ?_
 refine sr_ ?_
 refine os_ (still_r1 (mk := Op.load 85) rfl opd_glob (ld_tabs hm Tryd.isAgg85 Tryd.sizeOf85 rfl)) ?_
 refine om_ ?_
 refine on_ [(0, _), (2, _), (61, _), (62, _)] [⟨b2, 24, 3, [_, _, _]⟩] ?_
 refine CD.block ?_
 refine lp_ (fun (k : Nat) y__ => (k ≤ 12) ∧ (∀ m ∈ marksB.take k, m.isPrefixOf s.data.toList = false) ∧ y__ = (⟨74, [(0, .v (.string s)), (2, .v (.pointer (some ⟨b2, 0, none⟩))), (61, .agg (marksC.map .v)), (62, .v (.int .i64 (k : Nat)))], [⟨b2, 24, 3, cT noTk⟩]⟩ : St)) (fun (k : Nat) => 12 - k) 0 ⟨(Nat.zero_le _), (by simp), rfl⟩ (Wk.asS rfl sv_ (by repeat (first | exact trivial | refine ⟨lq_, ?_⟩))) ?_
 rintro k _ ⟨hk, hno, rfl⟩
 refine sr_ ?_
 refine os_ bn_ ?_
 refine nm_ [0, 2, 61, 62, 63] ?_
 refine CD.seq ?_
 refine CD.cond ot (fun hc5 => ?_) (fun hc5 => ?_)
 ·have hc5' := hc5
  (try simp only [V.cnd, ne_eq] at hc5')
  have hk12 : k < 12 := by omega
  have hkm : k < marksB.length := hk12
  refine CD.skip ?_
  refine CD.seq ?_
  refine CD.block ?_
  refine sr_ ?_
  refine os_ (still_vidx (j := k) rfl ot ot Tryd.runUnderlying85 Tryd.sizeOf9 Tryd.isAgg9 rfl (by omega) (marks_at hkm)) ?_
  refine om_ ?_
  refine on_ [(0, _), (2, _), (10, _), (61, _), (62, _)] [⟨b2, 24, 3, [_, _, _]⟩] ?_
  refine sr_ ?_
  refine om_ ?_
  refine om_ ?_
  refine oc_ Tryd.call71 (pref_vp _ _) ?_
  refine on_ [(0, _), (2, _), (10, _), (61, _), (62, _), (67, _)] [⟨b2, 24, 3, [_, _, _]⟩] ?_
  refine CD.cond ot (fun hc6 => ?_) (fun hc6 => ?_)
  ·have hmk := mark_hit hkm hno hc6
   rw [hmk] at hone
   refine sr_ ?_
   refine om_ ?_
   refine os_ (still_bld (pl := [(0, _), (1, _)]) (ds := [_, _, _]) rfl Tryd.zeroValue24 Tryd.runUnderlying24 places24_Lx1 ⟨rfl, opd_const, rfl, ot, trivial⟩ rfl rfl) ?_
   refine om_ ?_
   refine os_ (still_slen rfl rfl ot Tryd.runUnderlying9) ?_
   refine ot_ 0 [_, _, _] Tryd.sizeOf24 ?_
   refine om_ ?_
   refine om_ ?_
   refine on_ [(2, _), (3, _), (4, _)] [⟨b2, 24, 3, [_, _, _]⟩] ?_
   refine CD.ret ?_
   refine ⟨.inr rfl, _, [], List.nil_sublist _, ret_three Tryd.results38 (res_cells (k := 0) (ds := [_, _, _]) le_ lk rfl rfl Tryd.isAgg24 Tryd.sizeOf24 rfl rfl) (res_tmp le_ lk) (res_tmp le_ lk), ?_⟩
   rw [hone]; exact ⟨rfl, rfl⟩
  have hc6' := hc6
  (try simp only [V.cnd, ne_eq] at hc6')
  refine CD.skip ?_
  refine CD.region ?_
  refine os_ bn_ ?_
  refine om_ ?_
  refine nm_ [0, 2, 61, 62] ?_
  refine ⟨(k + 1), _, ?_, ?_, (by omega), (all_step (p := fun m => m.isPrefixOf s.data.toList = false) hkm hno hc6), rfl⟩
  ·first | omega | (simp only []; omega)
  exact Wk.asS (n := 74) rfl sv_ (by repeat (first | exact trivial | refine ⟨lq_, ?_⟩))
 have hc5' := hc5
 (try simp only [V.cnd, ne_eq] at hc5')
 have hk12 : k = 12 := by omega
 subst hk12
 have hmk := mark_none hno
 rw [hmk] at hone
 refine CD.exit ?_
 refine sr_ ?_
 refine os_ (still_bld (pl := []) (ds := [_, _, _]) rfl Tryd.zeroValue24 Tryd.runUnderlying24 places24_Lx1 trivial rfl rfl) ?_
 refine ot_ 0 [_, _, _] Tryd.sizeOf24 ?_
 refine om_ ?_
 refine om_ ?_
 refine on_ [(2, _), (3, _), (4, _)] [⟨b2, 24, 3, [_, _, _]⟩] ?_
 refine CD.ret ?_
 refine ⟨.inr rfl, _, [], List.nil_sublist _, ret_three Tryd.results38 (res_cells (k := 0) (ds := [_, _, _]) le_ lk rfl rfl Tryd.isAgg24 Tryd.sizeOf24 rfl rfl) (res_tmp le_ lk) (res_tmp le_ lk), ?_⟩
 rw [hone]; exact ⟨rfl, rfl⟩

end Go.Proofs.YtjgekbmahhhokaaDoor.Lx

namespace Go.Proofs.YtjgekbmahhhokaaDoor.Lx
open Go.RowKit V Go.Proofs.YtjgekbmahhhokaaDoor.Nm Go.Proofs.YtjgekbmahhhokaaDoor.Pk
set_option linter.unusedVariables false
set_option linter.unusedSimpArgs false

def blankB (c : UInt8) : Bool := decide (c.toNat = 32 ∨ c.toNat = 9 ∨ c.toNat = 10 ∨ c.toNat = 13)
def cutG : Nat → List UInt8 → Nat → List Tk → List Tk × Nat × Int
 | 0, _, _, _ => ([], 0, 0)
 | n + 1, l, a, acc =>
  if l.dropWhile blankB = [] then (acc, 0, 0)
  else if acc.length = 100 then ([], a + (l.takeWhile blankB).length, 10)
  else if (oneF (l.dropWhile blankB)).2.2 ≠ 0 then ([], a + (l.takeWhile blankB).length, (oneF (l.dropWhile blankB)).2.2)
  else cutG n ((l.dropWhile blankB).drop (oneF (l.dropWhile blankB)).2.1) (a + (l.takeWhile blankB).length + (oneF (l.dropWhile blankB)).2.1) (acc ++ [(oneF (l.dropWhile blankB)).1])
def cutF (l : List UInt8) : List Tk × Nat × Int := if l.length > 400 then ([], 0, 1) else cutG (l.length + 1) l 0 []
def cutD (r : List Tk × Nat × Int) : D := .tup [.list 3 (r.1.flatMap cT) r.1.length, .v (.int .i64 (r.2.1 : Nat)), .v (.int .i64 r.2.2)]
theorem text_pos : ∀ (l acc : List UInt8) (i : Nat), (textG l acc i).2.2 = 0 → i + 1 ≤ (textG l acc i).2.1 ∧ (textG l acc i).2.1 ≤ i + l.length
 | [], _, _, h => by simp [textG] at h
 | [c], acc, i, h => by
  rw [textG] at h ⊢
  by_cases hc : c = 39
  ·rw [if_pos hc]; simp
  rw [if_neg hc] at h; simp at h
 | c :: d :: r, acc, i, h => by
  rw [textG] at h ⊢
  by_cases hc : c = 39
  ·rw [if_pos hc] at h ⊢
   by_cases hd : d = 39
   ·rw [if_pos hd] at h ⊢
    have := text_pos r (acc ++ [39]) (i + 2) h
    simp only [List.length_cons]; omega
   rw [if_neg hd]; simp
  rw [if_neg hc] at h ⊢
  have := text_pos (d :: r) (acc ++ [c]) (i + 1) h
  simp only [List.length_cons] at this ⊢; omega
theorem marks_pos : ∀ m ∈ marksB, 1 ≤ m.length := by decide
theorem tw_pos {p : UInt8 → Bool} {l : List UInt8} (h : p (l.getD 0 0) = true) (h0 : l ≠ []) : 1 ≤ (l.takeWhile p).length := List.length_pos_iff.2 (takeW_ne h (List.length_pos_iff.2 h0))
theorem one_pos {l : List UInt8} (h0 : l ≠ []) (h : (oneF l).2.2 = 0) : 1 ≤ (oneF l).2.1 ∧ (oneF l).2.1 ≤ l.length := by
 unfold oneF at h ⊢
 by_cases h1 : letterB (l.getD 0 0) = true
 ·rw [if_pos h1]
  exact ⟨tw_pos (by unfold wordB; rw [h1]; rfl) h0, (List.takeWhile_prefix _).length_le⟩
 rw [if_neg h1] at h ⊢
 by_cases h2 : digitB (l.getD 0 0) = true
 ·rw [if_pos h2] at h ⊢
  by_cases h3 : afterL l = true
  ·rw [if_pos h3] at h; simp at h
  rw [if_neg h3] at h ⊢
  unfold numL at h ⊢
  rcases ha : Lib.atoiAll (l.takeWhile digitB) with v | _ | _
  ·exact ⟨tw_pos h2 h0, (List.takeWhile_prefix _).length_le⟩
  ·rw [ha] at h; simp at h
  rw [ha] at h; simp at h
 rw [if_neg h2] at h ⊢
 by_cases h3 : l.getD 0 0 = 39
 ·rw [if_pos h3] at h ⊢
  have := text_pos _ _ _ h
  rw [List.length_drop] at this
  have := List.length_pos_iff.2 h0
  omega
 rw [if_neg h3] at h ⊢
 unfold markL at h ⊢
 cases hf : marksB.find? (fun m => m.isPrefixOf l) with
 | none => rw [hf] at h; simp at h
 | some m =>
  have hp : m.isPrefixOf l = true := List.find?_some (p := fun m : List UInt8 => m.isPrefixOf l) hf
  exact ⟨marks_pos m (List.mem_of_find?_eq_some hf), (List.isPrefixOf_iff_prefix.1 hp).length_le⟩
theorem drop_span (p : UInt8 → Bool) (s : ByteArray) (a : Nat) : (s.data.toList.drop a).dropWhile p = s.data.toList.drop (a + ((s.data.toList.drop a).takeWhile p).length) := by
 have h1 := List.takeWhile_append_dropWhile (p := p) (l := s.data.toList.drop a)
 rw [← List.drop_drop]
 conv => rhs; rw [← h1]
 rw [List.takeWhile_append_dropWhile]
 have h2 : (s.data.toList.drop a).dropWhile p = ((s.data.toList.drop a).takeWhile p ++ (s.data.toList.drop a).dropWhile p).drop ((s.data.toList.drop a).takeWhile p).length := List.drop_left.symm
 rw [h1] at h2
 exact h2
theorem ext_tail (s : ByteArray) (a : Nat) : (s.extract a s.size).data.toList = s.data.toList.drop a := by
 rw [ByteArray.data_extract, Array.toList_extract]
 show (s.data.toList.drop a).take (s.size - a) = _
 exact List.take_of_length_le (by rw [List.length_drop, str_len]; exact Nat.le_refl _)
theorem ext_size (s : ByteArray) (a : Nat) : (s.extract a s.size).size = s.size - a := by rw [← str_len, ext_tail, List.length_drop, str_len]
variable {G : List (Nat × List Value)}

set_option maxHeartbeats 4000000 in
set_option maxRecDepth 100000 in
theorem blank_vp (c : UInt8) : VP Tryd.prog G 37 [.v (.int .u8 ((c).toNat : Int))] (.v (.bool (blankB c))) := by
 refine VC.body Tryd.func37 rfl Tryd.ntmps37 le_ fun X0 w0 S00 => ?_
 refine sr_ ?_
 refine om_ ?_
 refine nm_ [0] ?_
 refine sr_ ?_
 refine om_ ?_
 refine os_ bn_ ?_
 refine om_ ?_
 refine OD.split (t := 5) lk (fun hg5 => ?_) (fun hg5 => ?_)
 ·have hg5' := hg5; (try simp only [V.cnd, ne_eq] at hg5')
  refine sk_ ?_
  refine sk_ ?_
  refine os_ pkT_ ?_
  refine om_ ?_
  refine sk_ ?_
  refine sk_ ?_
  refine os_ pkT_ ?_
  refine om_ ?_
  refine sk_ ?_
  refine sk_ ?_
  refine os_ pkT_ ?_
  refine om_ ?_
  refine nm_ [2] ?_
  refine CD.ret ?_
  refine r1_ ?_
  refine ⟨vb ?_, rfl⟩
  rw [Bool.eq_iff_iff]
  simp [blankB]
  simp at *
  first | done | omega
 have hg5' := hg5; (try simp only [V.cnd, ne_eq] at hg5')
 refine om_ ?_
 refine os_ bn_ ?_
 refine os_ pkF_ ?_
 refine om_ ?_
 refine OD.split (t := 9) lk (fun hg9 => ?_) (fun hg9 => ?_)
 ·have hg9' := hg9; (try simp only [V.cnd, ne_eq] at hg9')
  refine sk_ ?_
  refine sk_ ?_
  refine os_ pkT_ ?_
  refine om_ ?_
  refine sk_ ?_
  refine sk_ ?_
  refine os_ pkT_ ?_
  refine om_ ?_
  refine nm_ [2] ?_
  refine CD.ret ?_
  refine r1_ ?_
  refine ⟨vb ?_, rfl⟩
  rw [Bool.eq_iff_iff]
  simp [blankB]
  simp at *
  first | done | omega
 have hg9' := hg9; (try simp only [V.cnd, ne_eq] at hg9')
 refine om_ ?_
 refine os_ bn_ ?_
 refine os_ pkF_ ?_
 refine om_ ?_
 refine OD.split (t := 13) lk (fun hg13 => ?_) (fun hg13 => ?_)
 ·have hg13' := hg13; (try simp only [V.cnd, ne_eq] at hg13')
  refine sk_ ?_
  refine sk_ ?_
  refine os_ pkT_ ?_
  refine om_ ?_
  refine nm_ [2] ?_
  refine CD.ret ?_
  refine r1_ ?_
  refine ⟨vb ?_, rfl⟩
  rw [Bool.eq_iff_iff]
  simp [blankB]
  simp at *
  first | done | omega
 have hg13' := hg13; (try simp only [V.cnd, ne_eq] at hg13')
 refine om_ ?_
 refine os_ bn_ ?_
 refine os_ pkF_ ?_
 refine om_ ?_
 refine nm_ [2] ?_
 refine CD.ret ?_
 refine r1_ ?_
 refine ⟨vb ?_, rfl⟩
 rw [Bool.eq_iff_iff]
 simp [blankB]
 simp at *
 first | done | omega

theorem cut_end {n a : Nat} {l : List UInt8} {acc : List Tk} (h : l.dropWhile blankB = []) : cutG (n + 1) l a acc = (acc, 0, 0) := by rw [cutG, if_pos h]
theorem cut_full {n a : Nat} {l : List UInt8} {acc : List Tk} (h : l.dropWhile blankB ≠ []) (h1 : acc.length = 100) : cutG (n + 1) l a acc = ([], a + (l.takeWhile blankB).length, 10) := by rw [cutG, if_neg h, if_pos h1]
theorem cut_err {n a : Nat} {l : List UInt8} {acc : List Tk} (h : l.dropWhile blankB ≠ []) (h1 : acc.length ≠ 100) (h2 : (oneF (l.dropWhile blankB)).2.2 ≠ 0) : cutG (n + 1) l a acc = ([], a + (l.takeWhile blankB).length, (oneF (l.dropWhile blankB)).2.2) := by rw [cutG, if_neg h, if_neg h1, if_pos h2]
theorem cut_next {n a : Nat} {l : List UInt8} {acc : List Tk} (h : l.dropWhile blankB ≠ []) (h1 : acc.length ≠ 100) (h2 : (oneF (l.dropWhile blankB)).2.2 = 0) : cutG (n + 1) l a acc = cutG n ((l.dropWhile blankB).drop (oneF (l.dropWhile blankB)).2.1) (a + (l.takeWhile blankB).length + (oneF (l.dropWhile blankB)).2.1) (acc ++ [(oneF (l.dropWhile blankB)).1]) := by rw [cutG, if_neg h, if_neg h1, if_neg (by simpa using h2)]
theorem tail_ne {s : ByteArray} {a : Nat} (h : a < s.size) : s.data.toList.drop a ≠ [] := fun e => by
 have := congrArg List.length e
 rw [List.length_drop, str_len] at this
 simp at this; omega

theorem info24_Lx2 : (Tryd.prog.info? 24).map (fun i => (i.zero, i.size, i.bytes)) = some (some (.agg #[.int .i64 0, .string ⟨#[]⟩, .int .i64 0]), 3, 32) := by kernel_rfl

set_option maxHeartbeats 4000000 in
set_option maxRecDepth 100000 in
theorem cut_vp (hm : (0, marksC) ∈ G) (s : ByteArray) (hs : s.size ≤ maxLen) (hov : (cutF s.data.toList).2.2 = 5 → RangeVar G) : VP Tryd.prog G 22 [.v (.string s)] (cutD (cutF s.data.toList)) := by
 refine VC.body Tryd.func22 rfl Tryd.ntmps22 le_ fun X0 w0 S00 => ?_
 have hmx : maxLen = 9223372036854775807 := rfl
 have hsl := str_len s
 refine sr_ ?_
 refine om_ ?_
 refine om_ ?_
 refine om_ ?_
 refine nm_ [0] ?_
 refine CD.seq ?_
 refine sr_ ?_
 refine om_ ?_
 refine os_ (still_slen rfl rfl ot Tryd.runUnderlying9) ?_
 refine os_ bn_ ?_
 refine on_ [(0, _), (12, _)] [] ?_
 refine CD.cond ot (fun hc0 => ?_) (fun hc0 => ?_)
 ·have hc0' := hc0
  (try simp only [V.cnd, ne_eq] at hc0')
  have hbig : cutF s.data.toList = ([], 0, 1) := by unfold cutF; rw [if_pos (by omega)]
  refine sr_ ?_
  refine om_ ?_
  refine om_ ?_
  refine om_ ?_
  refine nm_ [2, 3, 4] ?_
  refine CD.wk (Wk.giveNil (t := 2) (sz := 3) lk) ?_
  refine CD.ret ?_
  refine ⟨.inr rfl, _, [], List.nil_sublist _, ret_three Tryd.results22 (res_tmp le_ lk) (res_tmp le_ lk) (res_tmp le_ lk), ?_⟩
  first | (rw [hbig]; exact ⟨rfl, rfl⟩) | (rw [hcf, hce]; exact ⟨rfl, rfl⟩)
 have hc0' := hc0
 (try simp only [V.cnd, ne_eq] at hc0')
 have hcf : cutF s.data.toList = cutG (s.data.toList.length + 1) s.data.toList 0 [] := by unfold cutF; rw [if_neg (by omega)]
 rw [hcf] at hov
 refine CD.skip ?_
 refine sr_ ?_
 refine om_ ?_
 refine nm_ [0, 5] ?_
 refine sr_ ?_
 refine om_ ?_
 refine nm_ [0, 5, 6] ?_
 refine CD.block ?_
 refine lp_ (fun (gh__ : Nat × Nat × List Tk × Option Addr × Nat × List Blk) y__ => match gh__ with | (n, a, acc, adl, cpl, Sl) => (a ≤ s.size) ∧ (s.size - a < n) ∧ (cutG n (s.data.toList.drop a) a acc = cutG (s.data.toList.length + 1) s.data.toList 0 []) ∧ (acc.length ≤ 100) ∧ (OwnL 24 3 ((acc).flatMap cT) (acc).length adl cpl Sl) ∧ y__ = (⟨47, [(0, .v (.string s)), (5, .v (.slice adl (acc).length cpl)), (6, .v (.int .i64 (a : Nat)))], (Sl)⟩ : St)) (fun (gh__ : Nat × Nat × List Tk × Option Addr × Nat × List Blk) => match gh__ with | (n, a, acc, adl, cpl, Sl) => n) ((s.data.toList.length + 1), 0, [], none, 0, []) ⟨(Nat.zero_le _), (by omega), (by rw [List.drop_zero]), (Nat.zero_le _), (OwnL.cast ownL_nil (by first | rfl | simp)), rfl⟩ (Wk.asS rfl su_ (by repeat (first | exact trivial | refine ⟨(by (repeat (first | exact look_hit | (apply look_at; focus (first | rfl | (simp; done) | (congr 2; omega) | (apply row_eq; simp; done))) | (apply look_miss; focus rfl))); done), ?_⟩))) ?_
 rintro ⟨n, a, acc, adl, cpl, Sl⟩ _ ⟨ha, han, hc, hal, hol, rfl⟩
 obtain ⟨n, rfl⟩ : ∃ m, n = m + 1 := ⟨n - 1, by omega⟩
 have hes := ext_size s a
 have hkl := span_len blankB (s.extract a s.size)
 have hdw := drop_span blankB s a
 have hkk : ((s.data.toList.drop a).takeWhile blankB).length = (spanN blankB (s.extract a s.size)) := by unfold spanN; rw [ext_tail]
 rw [hkk] at hdw
 refine CD.block ?_
 refine sr_ ?_
 refine om_ ?_
 refine om_ ?_
 refine om_ ?_
 refine os_ (still_rs (l := a) rfl ot ⟨_, ot⟩ trivial (by first | exact sl_str (fun h => by cases h) (fun _ => rfl) Tryd.runUnderlying9 (by omega) (by omega))) ?_
 refine oc_ Tryd.call36 (span_vp (s.extract a s.size) 37 blankB Tryd.call37 blank_vp (by omega)) ?_
 refine os_ (still_bin (r := .int .i64 ((a + (spanN blankB (s.extract a s.size)) : Nat) : Int)) rfl ot ot (bin_add (by show IntKind.i64.wrap ((a : Int) + ((spanN blankB (s.extract a s.size)) : Nat)) = (a : Int) + ((spanN blankB (s.extract a s.size)) : Nat); exact wrap_i64 (by omega) (by omega)))) ?_
 refine om_ ?_
 refine OD.wk (Wk.as_ (n := 47) (l' := [(0, _), (5, _), (6, _)]) (S' := (Sl)) rfl rfl sl_) ?_
 refine OD.nil ?_
 refine CD.seq ?_
 refine sr_ ?_
 refine om_ ?_
 refine om_ ?_
 refine os_ (still_slen rfl rfl ot Tryd.runUnderlying9) ?_
 refine os_ bn_ ?_
 refine OD.wk (Wk.as_ (n := 47) (l' := [(0, _), (5, _), (6, _), (22, _)]) (S' := (Sl)) rfl rfl sl_) ?_
 refine OD.nil ?_
 refine CD.cond ot (fun hc1 => ?_) (fun hc1 => ?_)
 ·have hc1' := hc1
  (try simp only [V.cnd, ne_eq] at hc1')
  have hend : a + (spanN blankB (s.extract a s.size)) = s.size := by omega
  have hce := cut_end (n := n) (a := a) (acc := acc) (l := s.data.toList.drop a) (by rw [hdw, hend]; exact List.drop_eq_nil_of_le (by omega))
  rw [hc] at hce
  refine sr_ ?_
  refine om_ ?_
  refine om_ ?_
  refine om_ ?_
  refine om_ ?_
  refine nm_ [2, 3, 4] ?_
  refine CD.giveL (t := 2) (Sq := Sl) lk hol (fm_len cT_len _) (perm_r11 (A := [])) ?_
  refine CD.ret ?_
  refine ⟨.inr rfl, _, [], List.nil_sublist _, ret_three Tryd.results22 (res_tmp le_ lk) (res_tmp le_ lk) (res_tmp le_ lk), ?_⟩
  first | (rw [hbig]; exact ⟨rfl, rfl⟩) | (rw [hcf, hce]; exact ⟨rfl, rfl⟩)
 have hc1' := hc1
 (try simp only [V.cnd, ne_eq] at hc1')
 have hlt : a + (spanN blankB (s.extract a s.size)) < s.size := by omega
 have hne : (s.data.toList.drop a).dropWhile blankB ≠ [] := by rw [hdw]; exact tail_ne hlt
 have hes2 := ext_size s (a + (spanN blankB (s.extract a s.size)))
 have het := ext_tail s (a + (spanN blankB (s.extract a s.size)))
 have hd0 : (s.extract (a + (spanN blankB (s.extract a s.size))) s.size).data.toList ≠ [] := by rw [het]; exact tail_ne hlt
 refine CD.skip ?_
 refine CD.seq ?_
 refine sr_ ?_
 refine om_ ?_
 refine os_ ln_ ?_
 refine os_ bn_ ?_
 refine nm_ [0, 5, 6, 26] ?_
 refine CD.cond ot (fun hc2 => ?_) (fun hc2 => ?_)
 ·have hc2' := hc2
  (try simp only [V.cnd, ne_eq] at hc2')
  have hce := cut_full (n := n) (a := a) hne (show acc.length = 100 by omega)
  rw [hkk, hc] at hce
  refine sr_ ?_
  refine om_ ?_
  refine om_ ?_
  refine om_ ?_
  refine om_ ?_
  refine nm_ [2, 3, 4] ?_
  refine CD.wk (Wk.giveNil (t := 2) (sz := 3) lk) ?_
  refine CD.ret ?_
  refine ⟨.inr rfl, _, [], List.nil_sublist _, ret_three Tryd.results22 (res_tmp le_ lk) (res_tmp le_ lk) (res_tmp le_ lk), ?_⟩
  first | (rw [hbig]; exact ⟨rfl, rfl⟩) | (rw [hcf, hce]; exact ⟨rfl, rfl⟩)
 have hc2' := hc2
 (try simp only [V.cnd, ne_eq] at hc2')
 have hal2 : acc.length ≠ 100 := by omega
 have hov1 : (oneF (s.data.toList.drop (a + (spanN blankB (s.extract a s.size))))).2.2 = 5 → RangeVar G := fun h5 => hov (by rw [← hc, cut_err (n := n) (a := a) hne hal2 (by rw [hdw, h5]; decide), hdw]; exact h5)
 have hov2 : (oneF (s.extract (a + (spanN blankB (s.extract a s.size))) s.size).data.toList).2.2 = 5 → RangeVar G := by rw [het]; exact hov1
 have hov3 := one_vp hm (s.extract (a + (spanN blankB (s.extract a s.size))) s.size) (by omega) (by omega) hov2
 rw [het] at hov3
 refine CD.skip ?_
 refine sr_ ?_
 refine om_ ?_
 refine om_ ?_
 refine os_ (still_rs (l := (a + (spanN blankB (s.extract a s.size)))) rfl ot ⟨_, ot⟩ trivial (by first | exact sl_str (fun h => by cases h) (fun _ => rfl) Tryd.runUnderlying9 (by omega) (by omega))) ?_
 refine oc_ Tryd.call38 (hov3) ?_
 refine om_ ?_
 refine os_ ex_ ?_
 refine os_ ex_ ?_
 refine os_ ex_ ?_
 refine OD.alloc (ds := [_, _, _]) wp_ rfl rfl Tryd.zeroValue24 rfl (fun b7 => ?_)
 refine ot_ 0 [_, _, _] Tryd.sizeOf24 ?_
 refine om_ ?_
 refine om_ ?_
 refine OD.wk (Wk.as_ (n := 47) (l' := [(0, _), (5, _), (6, _), (7, _), (8, _), (9, _)]) (S' := (⟨b7, 24, 3, [_, _, _]⟩ :: Sl)) rfl rfl sl_) ?_
 refine OD.nil ?_
 refine CD.seq ?_
 refine sr_ ?_
 refine om_ ?_
 refine os_ bn_ ?_
 refine nm_ [0, 5, 6, 7, 8, 9, 37] ?_
 refine CD.cond ot (fun hc3 => ?_) (fun hc3 => ?_)
 ·have hc3' := hc3
  (try simp only [V.cnd, ne_eq] at hc3')
  have he0 : (oneF (s.data.toList.drop (a + (spanN blankB (s.extract a s.size))))).2.2 ≠ 0 := by simpa using hc3
  have hce := cut_err (n := n) (a := a) hne hal2 (by rw [hdw]; exact he0)
  rw [hkk, hdw, hc] at hce
  refine sr_ ?_
  refine om_ ?_
  refine om_ ?_
  refine om_ ?_
  refine om_ ?_
  refine om_ ?_
  refine nm_ [2, 3, 4] ?_
  refine CD.wk (Wk.giveNil (t := 2) (sz := 3) lk) ?_
  refine CD.ret ?_
  refine ⟨.inr rfl, _, [], List.nil_sublist _, ret_three Tryd.results22 (res_tmp le_ lk) (res_tmp le_ lk) (res_tmp le_ lk), ?_⟩
  first | (rw [hbig]; exact ⟨rfl, rfl⟩) | (rw [hcf, hce]; exact ⟨rfl, rfl⟩)
 have hc3' := hc3
 (try simp only [V.cnd, ne_eq] at hc3')
 have he0 : (oneF (s.data.toList.drop (a + (spanN blankB (s.extract a s.size))))).2.2 = 0 := by simpa using hc3
 have hnx := cut_next (n := n) (a := a) hne hal2 (by rw [hdw]; exact he0)
 have hpos := one_pos hne (by rw [hdw]; exact he0)
 rw [hdw] at hpos
 rw [List.length_drop, str_len] at hpos
 rw [hkk, hdw, List.drop_drop] at hnx
 refine CD.skip ?_
 refine sr_ ?_
 refine om_ ?_
 refine os_ (lab_ 0 [_, _, _]) ?_
 refine ob_ (numD 0 [_]) [.int .i64 0, .string ⟨#[]⟩, .int .i64 0] [_, _, _] Tryd.zeroValue24 Tryd.runUnderlying26 Tryd.sizeOf24 (fun b42 => ?_)
 refine og_ 0 42 3 1 ?_
 refine OD.appendG (ls := (acc)) (new := [(oneF (s.data.toList.drop (a + (spanN blankB (s.extract a s.size))))).1]) (Sq := Sl) cT_len cT_one wp_ rfl rfl Tryd.underlying26 info24_Lx2 rfl (by decide) ot hol (perm_r11 (A := [_])) ot (by simp) (by simp [maxLen]; omega) (by simp; omega) (fun b43 cp43 h143 h243 => ?_)
 refine OD.perm (perm_q11 (S1 := [⟨b43, 24, cp43 * 3, List.flatMap cT ((acc) ++ [(oneF (s.data.toList.drop (a + (spanN blankB (s.extract a s.size))))).1])⟩]) (A := [_])) ?_
 refine om_ ?_
 refine OD.wk (Wk.as_ (n := 47) (l' := [(0, _), (5, _), (6, _), (8, _)]) (S' := (⟨b7, 24, 3, [_, _, _]⟩ :: [⟨b43, 24, cp43 * 3, List.flatMap cT ((acc) ++ [(oneF (s.data.toList.drop (a + (spanN blankB (s.extract a s.size))))).1])⟩])) rfl rfl sl_) ?_
 refine OD.nil ?_
 refine CD.region ?_
 refine om_ ?_
 refine om_ ?_
 refine os_ (still_bin (r := .int .i64 ((a + (spanN blankB (s.extract a s.size)) + (oneF (s.data.toList.drop (a + (spanN blankB (s.extract a s.size))))).2.1 : Nat) : Int)) rfl ot ot (bin_add (by show IntKind.i64.wrap ((a : Int) + ((spanN blankB (s.extract a s.size)) : Nat) + ((oneF (s.data.toList.drop (a + (spanN blankB (s.extract a s.size))))).2.1 : Nat)) = (a : Int) + ((spanN blankB (s.extract a s.size)) : Nat) + ((oneF (s.data.toList.drop (a + (spanN blankB (s.extract a s.size))))).2.1 : Nat); exact wrap_i64 (by omega) (by omega)))) ?_
 refine om_ ?_
 refine OD.wk (Wk.as_ (n := 47) (l' := [(0, _), (5, _), (6, _)]) (S' := (⟨b7, 24, 3, [_, _, _]⟩ :: [⟨b43, 24, cp43 * 3, List.flatMap cT ((acc) ++ [(oneF (s.data.toList.drop (a + (spanN blankB (s.extract a s.size))))).1])⟩])) rfl rfl sl_) ?_
 refine OD.nil ?_
 refine ⟨(n, (a + (spanN blankB (s.extract a s.size)) + (oneF (s.data.toList.drop (a + (spanN blankB (s.extract a s.size))))).2.1), (acc ++ [(oneF (s.data.toList.drop (a + (spanN blankB (s.extract a s.size))))).1]), (some ⟨b43, 0, none⟩), cp43, [⟨b43, 24, cp43 * 3, List.flatMap cT ((acc) ++ [(oneF (s.data.toList.drop (a + (spanN blankB (s.extract a s.size))))).1])⟩]), _, ?_, ?_, (by omega), (by omega), (hnx.symm.trans hc), (by simp; omega), (OwnL.cast (ownL_row h143 h243) (by first | rfl | simp)), rfl⟩
 ·first | omega | (simp only []; omega)
 exact Wk.asS (n := 47) rfl su_ (by repeat (first | exact trivial | refine ⟨(by (repeat (first | exact look_hit | (apply look_at; focus (first | rfl | (simp; done) | (congr 2; omega) | (apply row_eq; simp; done))) | (apply look_miss; focus rfl))); done), ?_⟩))

end Go.Proofs.YtjgekbmahhhokaaDoor.Lx

namespace Go.Proofs.YtjgekbmahhhokaaDoor.Pa
open Go.RowKit V Pk Go.Proofs.YtjgekbmahhhokaaDoor.Vl Go.Proofs.YtjgekbmahhhokaaDoor.Nm Go.Proofs.YtjgekbmahhhokaaDoor.Lx
set_option linter.unusedVariables false
set_option linter.unusedSimpArgs false

def headsL : List ByteArray := [⟨#[73, 78, 83, 69, 82, 84, 32, 73, 78, 84, 79, 32, 116, 32, 86, 65, 76, 85, 69, 83, 32, 40]⟩, ⟨#[67, 82, 69, 65, 84, 69, 32, 84, 65, 66, 76, 69, 32, 116, 32, 40]⟩, ⟨#[83, 69, 76, 69, 67, 84, 32]⟩]
def tailsL : List ByteArray := [⟨#[41]⟩, ⟨#[41]⟩, ⟨#[32, 70, 82, 79, 77, 32, 116]⟩]
def letterS (i : Nat) : ByteArray := ⟨[UInt8.ofNat (97 + i)].toArray⟩
def partsL (i : Nat) : List ByteArray := [⟨#[49]⟩, letterS i ++ ⟨#[32, 73, 78, 84]⟩, letterS i]
def strL (w : Nat) : Nat → ByteArray
 | 0 => headsL.getD w ⟨#[]⟩
 | i + 1 => (if 0 < i then strL w i ++ ⟨#[44]⟩ else strL w i) ++ (partsL i).getD w ⟨#[]⟩
def wholeL (w k : Nat) : ByteArray := strL w k ++ tailsL.getD w ⟨#[]⟩
def tokOk (l : List Tk) : Bool := l.all fun t => decide (t.s.size ≤ 100) && decide (t.n ≤ 100)
def listOk (w k : Nat) : Bool := (Lx.cutF (wholeL w k).data.toList).2.2 == 0 && (tokOk (Lx.cutF (wholeL w k).data.toList).1 && (decide ((wholeL w k).size ≤ 1000) && (if 6 < k then (parseF (Lx.cutF (wholeL w k).data.toList).1).2.2 == 10 && (parseF (Lx.cutF (wholeL w k).data.toList).1).1.kind == 0
 else (parseF (Lx.cutF (wholeL w k).data.toList).1).2.2 == 0 && (((parseF (Lx.cutF (wholeL w k).data.toList).1).1.row.length + (parseF (Lx.cutF (wholeL w k).data.toList).1).1.cols.length) + (parseF (Lx.cutF (wholeL w k).data.toList).1).1.names.length == k))))
theorem lists_ok : ((List.range 3).all fun w => (List.range 10).all fun k => listOk w (k + 1)) = true := by decide +kernel
def twiceT : ByteArray := ⟨#[67, 82, 69, 65, 84, 69, 32, 84, 65, 66, 76, 69, 32, 116, 32, 40, 97, 32, 73, 78, 84, 44, 32, 98, 32, 73, 78, 84, 44, 32, 97, 32, 84, 69, 88, 84, 41]⟩
theorem twice_ok : (Lx.cutF twiceT.data.toList).2.2 = 0 ∧ tokOk (Lx.cutF twiceT.data.toList).1 = true ∧ (parseF (Lx.cutF twiceT.data.toList).1).2 = (10, 9) := by decide +kernel

end Go.Proofs.YtjgekbmahhhokaaDoor.Pa

namespace Go.Proofs.YtjgekbmahhhokaaDoor.Pa
open Go.RowKit V Pk Go.Proofs.YtjgekbmahhhokaaDoor.Vl Go.Proofs.YtjgekbmahhhokaaDoor.Nm
set_option linter.unusedVariables false
set_option linter.unusedSimpArgs false

abbrev TypesTab (w : World) : Prop := Tab.TabAt w 1 typesC
abbrev CmpTab (w : World) : Prop := Tab.TabAt w 5 cmpC
def typesB : List (List UInt8) := [[], [66, 79, 79, 76], [73, 78, 84], [84, 69, 88, 84]]
def cmpB : List (List UInt8 × Int × Bool × Bool) := [([61], 6, false, false), ([60, 62], 6, false, true), ([60], 7, false, false), ([62], 7, true, false), ([62, 61], 7, false, true), ([60, 61], 7, true, true)]
def TGP : List (Nat × List Value) := [(0, marksC), (2, wordsC), (1, typesC), (5, cmpC)]
theorem tp1 : (0, marksC) ∈ TGP := List.mem_cons_self
theorem tp2 : (2, wordsC) ∈ TGP := List.mem_cons_of_mem _ List.mem_cons_self
theorem tp3 : (1, typesC) ∈ TGP := List.mem_cons_of_mem _ (List.mem_cons_of_mem _ List.mem_cons_self)
theorem tp4 : (5, cmpC) ∈ TGP := List.mem_cons_of_mem _ (List.mem_cons_of_mem _ (List.mem_cons_of_mem _ List.mem_cons_self))
theorem tgpx {w : World} (h1 : MarksTab w) (h2 : WordsTab w) (h3 : TypesTab w) (h4 : CmpTab w) : ∀ g ∈ TGP, g.2 ≠ [] ∧ TabX w g.1 g.2 := fun g hg => by
 simp only [TGP, List.mem_cons, List.not_mem_nil, or_false] at hg
 rcases hg with rfl | rfl | rfl | rfl
 ·exact ⟨by decide, .of h1 rfl⟩
 ·exact ⟨by decide, .of h2 rfl⟩
 ·exact ⟨by decide, .of h3 rfl⟩
 exact ⟨by decide, .of h4 rfl⟩

end Go.Proofs.YtjgekbmahhhokaaDoor.Pa

namespace Go.Proofs.YtjgekbmahhhokaaDoor.Pa
open Go.RowKit V Pk Go.Proofs.YtjgekbmahhhokaaDoor.Vl Go.Proofs.YtjgekbmahhhokaaDoor.Nm Go.Proofs.YtjgekbmahhhokaaDoor.Lx
set_option linter.unusedVariables false
set_option linter.unusedSimpArgs false

variable {G : List (Nat × List Value)}
theorem tok_small {l : List Tk} (h : tokOk l = true) : ∀ t ∈ l, t.s.size ≤ maxLen ∧ t.n ≤ 9223372036854775807 := fun t ht => by
 have h1 := List.all_eq_true.1 h t ht
 simp only [Bool.and_eq_true, decide_eq_true_eq] at h1
 have : 100 ≤ maxLen := by decide
 omega
theorem cut_of (hm : (0, marksC) ∈ G) {s : ByteArray} (hs : s.size ≤ maxLen) (h0 : (Lx.cutF s.data.toList).2.2 = 0) : VP Tryd.prog G 22 [.v (.string (s))] (.tup [.list 3 ((Lx.cutF s.data.toList).1.flatMap cT) (Lx.cutF s.data.toList).1.length, .v (.int .i64 (((Lx.cutF s.data.toList).2.1 : Nat) : Int)), .v (.int .i64 0)]) := by
 have h := Lx.cut_vp (G := G) hm s hs (fun h => by rw [h0] at h; cases h)
 unfold Lx.cutD at h
 rw [h0] at h
 exact h
theorem list_facts (hm : (0, marksC) ∈ G) (hw_ : (2, wordsC) ∈ G) (hk_ : (5, cmpC) ∈ G) (hty : (1, typesC) ∈ G) {w k : Nat} (hw : w < 3) (hk : k < 10) : ∃ (ls : List Tk) (p : Nat) (s : StL) (q : Nat) (f : Int), VP Tryd.prog G 22 [.v (.string (wholeL w (k + 1)))] (.tup [.list 3 (ls.flatMap cT) ls.length, .v (.int .i64 ((p : Nat) : Int)), .v (.int .i64 0)]) ∧ VP Tryd.prog G 13 [.list 3 (ls.flatMap cT) ls.length] (.tup [.agg (cSt s), .v (.int .i64 ((q : Nat) : Int)), .v (.int .i64 f)]) ∧ (6 < k + 1 → f = 10 ∧ s.kind = 0) ∧ (¬ 6 < k + 1 → f = 0 ∧ (s.row.length + s.cols.length) + s.names.length = k + 1) := by
 have h := List.all_eq_true.1 (List.all_eq_true.1 lists_ok w (List.mem_range.2 hw)) k (List.mem_range.2 hk)
 unfold listOk at h
 generalize wholeL w (k + 1) = t at h ⊢
 simp only [Bool.and_eq_true, beq_iff_eq, decide_eq_true_eq] at h
 obtain ⟨h0, h1, h2, h3⟩ := h
 have hmx : 1000 ≤ maxLen := by decide
 have hc := cut_of (G := G) hm (s := t) (by omega) h0
 have hp := parse_vc (G := G) hm hw_ hk_ hty _ (tok_small h1)
 unfold dvP at hp
 generalize parseF (Lx.cutF t.data.toList).1 = r at hp h3
 obtain ⟨s, q, f⟩ := r
 refine ⟨_, _, s, q, f, hc, hp, fun h6 => ?_, fun h6 => ?_⟩
 ·rw [if_pos h6] at h3; simpa using h3
 rw [if_neg h6] at h3; simpa using h3
theorem twice_facts (hm : (0, marksC) ∈ G) (hw_ : (2, wordsC) ∈ G) (hk_ : (5, cmpC) ∈ G) (hty : (1, typesC) ∈ G) : ∃ (ls : List Tk) (p : Nat) (s : StL), VP Tryd.prog G 22 [.v (.string (twiceT))] (.tup [.list 3 (ls.flatMap cT) ls.length, .v (.int .i64 ((p : Nat) : Int)), .v (.int .i64 0)]) ∧ VP Tryd.prog G 13 [.list 3 (ls.flatMap cT) ls.length] (.tup [.agg (cSt s), .v (.int .i64 ((10 : Nat) : Int)), .v (.int .i64 9)]) := by
 obtain ⟨h0, h1, h2⟩ := twice_ok
 have hc := cut_of (G := G) hm (s := twiceT) (by show _ ≤ maxLen; decide) h0
 have hp := parse_vc (G := G) hm hw_ hk_ hty _ (tok_small h1)
 unfold dvP at hp
 rw [h2] at hp
 exact ⟨_, _, _, hc, hp⟩
theorem str_small : ∀ w, w < 3 → ∀ i, i < 12 → (strL w i).size ≤ 300 ∧ ((partsL i).getD w ⟨#[]⟩).size ≤ 10 := by decide +kernel
theorem tail_small : ∀ w, w < 3 → (tailsL.getD w ⟨#[]⟩).size ≤ 10 := by decide
theorem let_small : ∀ i, i < 12 → (letterS i).size = 1 := by decide +kernel
theorem str_more {w i : Nat} (h : 0 < i) : strL w (i + 1) = (strL w i ++ ⟨#[44]⟩) ++ (partsL i).getD w ⟨#[]⟩ := by rw [strL, if_pos h]
theorem str_first {w i : Nat} (h : ¬ 0 < i) : strL w (i + 1) = strL w i ++ (partsL i).getD w ⟨#[]⟩ := by rw [strL, if_neg h]
theorem let_wrap : ∀ i : Nat, i < 12 → IntKind.wrap .u8 (97 + (i : Int)) = ((UInt8.ofNat (97 + i)).toNat : Int) := by decide +kernel
theorem at_getD {α : Type} {l : List α} {w : Nat} {d : α} (h : w < l.length) : l[w] = l.getD w d := by rw [List.getD_eq_getElem?_getD, List.getElem?_eq_getElem h]; rfl

set_option maxHeartbeats 4000000 in
set_option maxRecDepth 100000 in
theorem lists_vp (hm : (0, marksC) ∈ G) (hw_ : (2, wordsC) ∈ G) (hk_ : (5, cmpC) ∈ G) (hty : (1, typesC) ∈ G) (n wh : Int) (hn1 : -9223372036854775808 ≤ n) (hn2 : n ≤ 9223372036854775807) (hw1 : -9223372036854775808 ≤ wh) (hw2 : wh ≤ 9223372036854775807) : VP Tryd.prog G 10 [.v (.int .i64 n), .v (.int .i64 wh)] (.v (.bool true)) := by
 refine VC.body Tryd.func10 rfl Tryd.ntmps10 le_ fun X0 w0 S00 => ?_
 have hp1 := pickedF_bd n (show (1 : Int) ≤ 10 by decide)
 have hv1 := picked_vp G n 10 hn1 hn2 (by decide)
 generalize pickedF n 10 = k0 at hp1 hv1
 obtain ⟨k, rfl⟩ := Int.eq_ofNat_of_zero_le hp1.1
 have hk10 : k < 10 := by omega
 have hp2 := pickedF_bd wh (show (1 : Int) ≤ 3 by decide)
 have hv2 := picked_vp G wh 3 hw1 hw2 (by decide)
 generalize pickedF wh 3 = w0 at hp2 hv2
 obtain ⟨w, rfl⟩ := Int.eq_ofNat_of_zero_le hp2.1
 have hw3 : w < 3 := by omega
 obtain ⟨ls, p, s, q, f, hC, hP, hb6, hs6⟩ := list_facts (G := G) hm hw_ hk_ hty hw3 hk10
 obtain ⟨ls2, p2, s2, hC2, hP2⟩ := twice_facts (G := G) hm hw_ hk_ hty
 unfold cSt at hP hP2
 refine sr_ ?_
 refine om_ ?_
 refine nm_ [0, 1] ?_
 refine sr_ ?_
 refine om_ ?_
 refine oc_ Tryd.call11 (hv1) ?_
 refine os_ bn_ ?_
 refine om_ ?_
 refine on_ [(1, _), (5, _)] [] ?_
 refine sr_ ?_
 refine ob_ (numD 0 [_, _, _]) [.string ⟨#[]⟩, .string ⟨#[]⟩, .string ⟨#[]⟩] [_, _, _] Tryd.zeroValue9 Tryd.runUnderlying29 Tryd.sizeOf9 (fun b24 => ?_)
 refine og_ 0 24 1 3 ?_
 refine om_ ?_
 refine oc_ Tryd.call11 (hv2) ?_
 refine os_ (ix_ 1 (h := by first | exact .l (j := w) rfl hw3 | exact .r (j := w) rfl hw3)) ?_
 refine os_ (still_r1 (mk := Op.load 9) rfl ot (by exact ld_fm0 (g := cS) (ls := headsL) (i := w) (d := .v (.string (strL w 0))) cS_len Tryd.isAgg9 hw3 (by show some (D.v (.string ((headsL)[w]'hw3))) = some (D.v (.string (strL w 0))); rw [at_getD (d := ⟨#[]⟩) (l := headsL) hw3]; rfl))) ?_
 refine om_ ?_
 refine on_ [(1, _), (5, _), (6, _)] [] ?_
 refine sr_ ?_
 refine om_ ?_
 refine om_ ?_
 refine nm_ [1, 5, 7] ?_
 refine CD.seq ?_
 refine sr_ ?_
 refine om_ ?_
 refine nm_ [1, 5, 7, 8] ?_
 refine CD.block ?_
 refine lp_ (fun (i : Nat) y__ => (i ≤ k + 1) ∧ y__ = (⟨124, [(1, .v (.int .i64 wh)), (5, .v (.int .i64 (1 + (k : Int)))), (7, .v (.string (strL w i))), (8, .v (.int .i64 (i : Nat)))], []⟩ : St)) (fun (i : Nat) => k + 1 - i) 0 ⟨(Nat.zero_le _), rfl⟩ (Wk.asS rfl sv_ sq_) ?_
 rintro i _ ⟨hi, rfl⟩
 refine CD.seq ?_
 refine sr_ ?_
 refine om_ ?_
 refine om_ ?_
 refine os_ bn_ ?_
 refine nm_ [1, 5, 7, 8, 32] ?_
 refine CD.cond ot (fun hc0 => ?_) (fun hc0 => ?_)
 ·have hc0' := hc0
  (try simp only [V.cnd, ne_eq] at hc0')
  have hlt : i < k + 1 := by simp at hc0; omega
  have hss := str_small w hw3 i (by omega)
  have hl1 := let_small i (by omega)
  refine CD.skip ?_
  refine CD.seq ?_
  refine CD.block ?_
  refine CD.seq ?_
  refine sr_ ?_
  refine om_ ?_
  refine os_ bn_ ?_
  refine nm_ [1, 5, 7, 8, 36] ?_
  refine CD.cond ot (fun hc1 => ?_) (fun hc1 => ?_)
  ·have hc1' := hc1
   (try simp only [V.cnd, ne_eq] at hc1')
   have hi0 : 0 < i := by simp at hc1; omega
   refine CD.region ?_
   refine om_ ?_
   refine os_ (still_bin (r := .string (strL w i ++ ⟨#[44]⟩)) rfl ot opd_const (bin_cat (by show (strL w i).size + 1 ≤ _; omega))) ?_
   refine om_ ?_
   refine on_ [(1, _), (5, _), (7, _), (8, _)] [] ?_
   refine sr_ ?_
   refine om_ ?_
   refine os_ bn_ ?_
   refine os_ (still_conv (r := .int .u8 ((UInt8.ofNat (97 + i)).toNat : Int)) rfl ot (conv_int Tryd.runUnderlying3 Tryd.runUnderlying5 (let_wrap i (by omega)))) ?_
   refine ob_ (numD 0 [_]) [.int .u8 0] [_] Tryd.zeroValue5 Tryd.runUnderlying62 Tryd.sizeOf5 (fun b42 => ?_)
   refine og_ 0 42 1 1 ?_
   refine os_ (sb_ (bs := [UInt8.ofNat (97 + i)])) ?_
   refine om_ ?_
   refine on_ [(1, _), (5, _), (7, _), (8, _), (9, _)] [] ?_
   refine CD.region ?_
   refine om_ ?_
   refine om_ ?_
   refine os_ (still_bin (r := .string (letterS i ++ ⟨#[32, 73, 78, 84]⟩)) rfl ot opd_const (bin_cat (by show (letterS i).size + 4 ≤ _; omega))) ?_
   refine om_ ?_
   refine ob_ (numD 0 [_, _, _]) [.string ⟨#[]⟩, .string ⟨#[]⟩, .string ⟨#[]⟩] [_, _, _] Tryd.zeroValue9 Tryd.runUnderlying29 Tryd.sizeOf9 (fun b48 => ?_)
   refine og_ 0 48 1 3 ?_
   refine om_ ?_
   refine oc_ Tryd.call11 (hv2) ?_
   refine os_ (ix_ 1 (h := by first | exact .l (j := w) rfl hw3 | exact .r (j := w) rfl hw3)) ?_
   refine os_ (still_r1 (mk := Op.load 9) rfl ot (by exact ld_fm0 (g := cS) (ls := partsL i) (i := w) (d := .v (.string ((partsL i).getD w ⟨#[]⟩))) cS_len Tryd.isAgg9 hw3 (by show some (D.v (.string ((partsL i)[w]'hw3))) = some (D.v (.string ((partsL i).getD w ⟨#[]⟩))); rw [at_getD (d := ⟨#[]⟩) (l := partsL i) hw3]))) ?_
   refine os_ (still_bin (r := .string (strL w (i + 1))) rfl ot ot (by first | (rw [str_more hi0]; exact bin_cat (by rw [ByteArray.size_append]; show (strL w i).size + 1 + _ ≤ _; omega)) | (rw [str_first hi0]; exact bin_cat (by omega)))) ?_
   refine om_ ?_
   refine on_ [(1, _), (5, _), (7, _), (8, _)] [] ?_
   refine CD.region ?_
   refine om_ ?_
   refine os_ bn_ ?_
   refine om_ ?_
   refine nm_ [1, 5, 7, 8] ?_
   refine ⟨(i + 1), _, ?_, ?_, (by omega), rfl⟩
   ·first | omega | (simp only []; omega)
   exact Wk.asS (n := 124) rfl sv_ sq_
  have hc1' := hc1
  (try simp only [V.cnd, ne_eq] at hc1')
  have hi0 : ¬ 0 < i := by simp at hc1; omega
  refine CD.skip ?_
  refine sr_ ?_
  refine om_ ?_
  refine os_ bn_ ?_
  refine os_ (still_conv (r := .int .u8 ((UInt8.ofNat (97 + i)).toNat : Int)) rfl ot (conv_int Tryd.runUnderlying3 Tryd.runUnderlying5 (let_wrap i (by omega)))) ?_
  refine ob_ (numD 0 [_]) [.int .u8 0] [_] Tryd.zeroValue5 Tryd.runUnderlying62 Tryd.sizeOf5 (fun b42 => ?_)
  refine og_ 0 42 1 1 ?_
  refine os_ (sb_ (bs := [UInt8.ofNat (97 + i)])) ?_
  refine om_ ?_
  refine on_ [(1, _), (5, _), (7, _), (8, _), (9, _)] [] ?_
  refine CD.region ?_
  refine om_ ?_
  refine om_ ?_
  refine os_ (still_bin (r := .string (letterS i ++ ⟨#[32, 73, 78, 84]⟩)) rfl ot opd_const (bin_cat (by show (letterS i).size + 4 ≤ _; omega))) ?_
  refine om_ ?_
  refine ob_ (numD 0 [_, _, _]) [.string ⟨#[]⟩, .string ⟨#[]⟩, .string ⟨#[]⟩] [_, _, _] Tryd.zeroValue9 Tryd.runUnderlying29 Tryd.sizeOf9 (fun b48 => ?_)
  refine og_ 0 48 1 3 ?_
  refine om_ ?_
  refine oc_ Tryd.call11 (hv2) ?_
  refine os_ (ix_ 1 (h := by first | exact .l (j := w) rfl hw3 | exact .r (j := w) rfl hw3)) ?_
  refine os_ (still_r1 (mk := Op.load 9) rfl ot (by exact ld_fm0 (g := cS) (ls := partsL i) (i := w) (d := .v (.string ((partsL i).getD w ⟨#[]⟩))) cS_len Tryd.isAgg9 hw3 (by show some (D.v (.string ((partsL i)[w]'hw3))) = some (D.v (.string ((partsL i).getD w ⟨#[]⟩))); rw [at_getD (d := ⟨#[]⟩) (l := partsL i) hw3]))) ?_
  refine os_ (still_bin (r := .string (strL w (i + 1))) rfl ot ot (by first | (rw [str_more hi0]; exact bin_cat (by rw [ByteArray.size_append]; show (strL w i).size + 1 + _ ≤ _; omega)) | (rw [str_first hi0]; exact bin_cat (by omega)))) ?_
  refine om_ ?_
  refine on_ [(1, _), (5, _), (7, _), (8, _)] [] ?_
  refine CD.region ?_
  refine om_ ?_
  refine os_ bn_ ?_
  refine om_ ?_
  refine nm_ [1, 5, 7, 8] ?_
  refine ⟨(i + 1), _, ?_, ?_, (by omega), rfl⟩
  ·first | omega | (simp only []; omega)
  exact Wk.asS (n := 124) rfl sv_ sq_
 have hc0' := hc0
 (try simp only [V.cnd, ne_eq] at hc0')
 have hie : i = k + 1 := by simp at hc0; omega
 subst hie
 have hss := (str_small w hw3 (k + 1) (by omega)).1
 have hts := tail_small w hw3
 refine CD.exit ?_
 refine sr_ ?_
 refine om_ ?_
 refine ob_ (numD 0 [_, _, _]) [.string ⟨#[]⟩, .string ⟨#[]⟩, .string ⟨#[]⟩] [_, _, _] Tryd.zeroValue9 Tryd.runUnderlying29 Tryd.sizeOf9 (fun b55 => ?_)
 refine og_ 0 55 1 3 ?_
 refine om_ ?_
 refine oc_ Tryd.call11 (hv2) ?_
 refine os_ (ix_ 1 (h := by first | exact .l (j := w) rfl hw3 | exact .r (j := w) rfl hw3)) ?_
 refine os_ (still_r1 (mk := Op.load 9) rfl ot (by exact ld_fm0 (g := cS) (ls := tailsL) (i := w) (d := .v (.string (tailsL.getD w ⟨#[]⟩))) cS_len Tryd.isAgg9 hw3 (by show some (D.v (.string ((tailsL)[w]'hw3))) = some (D.v (.string (tailsL.getD w ⟨#[]⟩))); rw [at_getD (d := ⟨#[]⟩) (l := tailsL) hw3]))) ?_
 refine os_ (still_bin (r := .string (wholeL w (k + 1))) rfl ot ot (bin_cat (by omega))) ?_
 refine om_ ?_
 refine on_ [(5, _), (7, _)] [] ?_
 refine sr_ ?_
 refine om_ ?_
 refine oc_ Tryd.call22 (hC) ?_
 refine om_ ?_
 refine os_ ex_ ?_
 refine os_ ex_ ?_
 refine os_ ex_ ?_
 refine om_ ?_
 refine om_ ?_
 refine om_ ?_
 refine on_ [(5, _), (10, _), (12, _)] [] ?_
 refine sr_ ?_
 refine om_ ?_
 refine oc_ Tryd.call13 (hP) ?_
 refine om_ ?_
 refine os_ ex_ ?_
 refine os_ ex_ ?_
 refine os_ ex_ ?_
 refine OD.alloc (ds := [_, _, _, _, _, _, _, _, _, _, _, _]) wp_ rfl rfl Tryd.zeroValue32 rfl (fun b13 => ?_)
 refine ot_ 0 [_, _, _, _, _, _, _, _, _, _, _, _] Tryd.sizeOf32 ?_
 refine om_ ?_
 refine om_ ?_
 refine on_ [(5, _), (12, _), (13, _), (15, _)] [⟨b13, 32, 12, [_, _, _, _, _, _, _, _, _, _, _, _]⟩] ?_
 refine sr_ ?_
 refine oc_ Tryd.call22 (hC2) ?_
 refine om_ ?_
 refine os_ ex_ ?_
 refine os_ ex_ ?_
 refine os_ ex_ ?_
 refine om_ ?_
 refine om_ ?_
 refine om_ ?_
 refine on_ [(5, _), (10, _), (12, _), (13, _), (15, _), (17, _)] [⟨b13, 32, 12, [_, _, _, _, _, _, _, _, _, _, _, _]⟩] ?_
 refine sr_ ?_
 refine om_ ?_
 refine oc_ Tryd.call13 (hP2) ?_
 refine om_ ?_
 refine os_ ex_ ?_
 refine os_ ex_ ?_
 refine os_ ex_ ?_
 refine OD.alloc (ds := [_, _, _, _, _, _, _, _, _, _, _, _]) wp_ rfl rfl Tryd.zeroValue32 rfl (fun b18 => ?_)
 refine ot_ 0 [_, _, _, _, _, _, _, _, _, _, _, _] Tryd.sizeOf32 ?_
 refine om_ ?_
 refine om_ ?_
 refine on_ [(5, _), (12, _), (13, _), (15, _), (17, _), (19, _), (20, _)] [⟨b18, 32, 12, [_, _, _, _, _, _, _, _, _, _, _, _]⟩, ⟨b13, 32, 12, [_, _, _, _, _, _, _, _, _, _, _, _]⟩] ?_
 refine CD.seq ?_
 refine sr_ ?_
 refine om_ ?_
 refine os_ bn_ ?_
 refine om_ ?_
 refine OD.split (t := 86) lk (fun hg86 => ?_) (fun hg86 => ?_)
 ·exact absurd hg86 (by simp)
 have hg86' := hg86; (try simp only [V.cnd, ne_eq] at hg86')
 refine om_ ?_
 refine os_ bn_ ?_
 refine os_ pkF_ ?_
 refine om_ ?_
 refine OD.split (t := 90) lk (fun hg90 => ?_) (fun hg90 => ?_)
 ·exact absurd hg90 (by simp)
 have hg90' := hg90; (try simp only [V.cnd, ne_eq] at hg90')
 refine om_ ?_
 refine os_ bn_ ?_
 refine os_ pkF_ ?_
 refine om_ ?_
 refine OD.split (t := 94) lk (fun hg94 => ?_) (fun hg94 => ?_)
 ·exact absurd hg94 (by simp)
 have hg94' := hg94; (try simp only [V.cnd, ne_eq] at hg94')
 refine om_ ?_
 refine os_ bn_ ?_
 refine os_ pkF_ ?_
 refine nm_ [5, 13, 15, 97] ?_
 refine CD.cond ot (fun hc2 => ?_) (fun hc2 => ?_)
 ·exact absurd hc2 (by simp)
 have hc2' := hc2
 (try simp only [V.cnd, ne_eq] at hc2')
 refine CD.skip ?_
 refine CD.seq ?_
 refine sr_ ?_
 refine om_ ?_
 refine os_ bn_ ?_
 refine nm_ [5, 13, 15, 99] ?_
 refine CD.cond ot (fun hc3 => ?_) (fun hc3 => ?_)
 ·have hc3' := hc3
  (try simp only [V.cnd, ne_eq] at hc3')
  obtain ⟨hf, hkd⟩ := hb6 (by simp at hc3; omega)
  subst hf
  refine sr_ ?_
  refine om_ ?_
  refine os_ bn_ ?_
  refine om_ ?_
  refine OD.split (t := 102) lk (fun hg102 => ?_) (fun hg102 => ?_)
  ·have hg102' := hg102; (try simp only [V.cnd, ne_eq] at hg102')
   refine os_ (fa_ 0) ?_
   refine os_ (lb_ 1) ?_
   refine os_ bn_ ?_
   refine os_ pkT_ ?_
   refine om_ ?_
   refine nm_ [4] ?_
   refine CD.ret ?_
   refine r1_ ?_
   first | exact ⟨rfl, rfl⟩ | (refine ⟨vb ?_, rfl⟩; simp [*]; done) | (refine ⟨vb ?_, rfl⟩; simp; omega)
  exact absurd hg102 (by simp)
 have hc3' := hc3
 (try simp only [V.cnd, ne_eq] at hc3')
 obtain ⟨hf, hsum⟩ := hs6 (by simp at hc3; omega)
 subst hf
 refine CD.skip ?_
 refine sr_ ?_
 refine om_ ?_
 refine os_ bn_ ?_
 refine om_ ?_
 refine OD.split (t := 109) lk (fun hg109 => ?_) (fun hg109 => ?_)
 ·have hg109' := hg109; (try simp only [V.cnd, ne_eq] at hg109')
  refine os_ (fa_ 3) ?_
  refine os_ (lb_ 1) ?_
  refine os_ ln_ ?_
  refine os_ (fa_ 2) ?_
  refine os_ (lb_ 1) ?_
  refine os_ ln_ ?_
  refine os_ bn_ ?_
  refine os_ (fa_ 4) ?_
  refine os_ (lb_ 1) ?_
  refine os_ ln_ ?_
  refine os_ bn_ ?_
  refine om_ ?_
  refine os_ bn_ ?_
  refine os_ pkT_ ?_
  refine om_ ?_
  refine nm_ [4] ?_
  refine CD.ret ?_
  refine r1_ ?_
  first | exact ⟨rfl, rfl⟩ | (refine ⟨vb ?_, rfl⟩; simp [*]; done) | (refine ⟨vb ?_, rfl⟩; simp; omega)
 exact absurd hg109 (by simp)

theorem walkParseLists (n : Int) (wn : (Lit.int .i64 n).wf = true) (wh : Int) (ww : (Lit.int .i64 wh).wf = true) (w : World) (h1 : MarksTab w) (h2 : WordsTab w) (h3 : TypesTab w) (h4 : CmpTab w) : Calls Tryd.prog 10 #[.int .i64 n, .int .i64 wh] w fun e w' => e = .returned (.bool true) ∧ Below w.heap.size w w' :=
 (lists_vp (G := TGP) tp1 tp2 tp4 tp3 n wh (wf_bd wn).1 (wf_bd wn).2 (wf_bd ww).1 (wf_bd ww).2).runL (tgpx h1 h2 h3 h4) (vs := [_, _]) (RepL.vs w _ [_, _])

end Go.Proofs.YtjgekbmahhhokaaDoor.Pa
