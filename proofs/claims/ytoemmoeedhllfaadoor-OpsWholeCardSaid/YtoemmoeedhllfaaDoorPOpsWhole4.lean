/-
  What the proof of OpsWhole leans on, part 4 of 4: walks of the program's functions at the level of values, and plain facts of what they compute.
-/
import Derived.Test.YtoemmoeedhllfaaDoorPOpsWhole3
namespace Go.Proofs.YtoemmoeedhllfaaDoor.Nm
open Go.RowKit V Pk Vl
set_option linter.unusedVariables false
set_option linter.unusedSimpArgs false

def runs : Int → List OpL → Option Int
  | h, [] => some h
  | h, o :: r => if opErr h o = 0 then runs (h + (1 - popsF o.k)) r else none
theorem runs_append : ∀ (a b : List OpL) (h : Int), runs h (a ++ b) = (runs h a).bind fun h' => runs h' b
  | [], b, h => rfl
  | o :: r, b, h => by
    rw [List.cons_append, runs, runs]
    split
    · exact runs_append r b _
    · rfl
theorem exprL_runs : ∀ {a : List OpL} {h h' : Int} (b : List OpL), runs h a = some h' → exprL h (a ++ b) = exprL h' b
  | [], h, h', b, e => by cases e; rfl
  | o :: r, h, h', b, e => by
    rw [runs] at e
    split at e
    · rename_i h0
      rw [List.cons_append, exprL, if_pos h0]
      exact exprL_runs b e
    · cases e
theorem runs_take {l : List OpL} {h h' : Int} (j : Nat) (e : runs h l = some h') : ∃ h2, runs h (l.take j) = some h2 := by
  rw [← List.take_append_drop j l, runs_append] at e
  cases hr : runs h (l.take j) with
  | none => rw [hr] at e; cases e
  | some h2 => exact ⟨h2, rfl⟩
theorem no_name : ((⟨#[]⟩ : ByteArray).toList == (⟨#[]⟩ : ByteArray).toList) = true := by simp
theorem zero_noVl : zeroV noVl = true := by unfold zeroV noVl; simp
theorem lit_noVl : litF noVl = 0 := by decide
theorem lit_litV (n : Int) (s : ByteArray) : litF (litV n s) = 0 := by
  have h1 := pickedF_bd n (by decide : (1 : Int) ≤ 40)
  have h2 := pickedF_bd (pickedF n 40 - 20) (by decide : (1 : Int) ≤ 2)
  have hc : (cutF (cutF s 10) 4).size ≤ 4 := by rw [cutF_size]; omega
  have he : cutF (⟨#[]⟩ : ByteArray) 4 = ByteArray.empty := str_ext (by rw [cutF_list]; rfl)
  unfold litF litV valueF
  split
  · simp [checkV, he]; omega
  · split
    · simp [checkV, he]; omega
    · split
      · simp [checkV]; omega
      · unfold noVl; simp [checkV, he]
theorem err_lit {h : Int} (h0 : 0 ≤ h) (n : Int) (s : ByteArray) : opErr h (litOp n s) = 0 := by
  unfold opErr litOp
  rw [lit_litV]
  simp [popsF]
  omega
theorem name_col (j : Int) : nameF (nameC j) = 0 := by
  unfold nameC
  split
  · exact small_name (l := [105, 100]) (by decide) (by decide) (by decide)
  · split
    · exact small_name (l := [110]) (by decide) (by decide) (by decide)
    · split
      · exact small_name (l := [115]) (by decide) (by decide) (by decide)
      · exact small_name (l := [98]) (by decide) (by decide) (by decide)
theorem err_col {h : Int} (h0 : 0 ≤ h) (n : Int) : opErr h (colOp n) = 0 := by
  unfold opErr colOp
  rw [lit_noVl, zero_noVl, name_col]
  simp [popsF]
  omega
theorem err_bare {h k : Int} (h1 : 3 ≤ k) (h2 : k ≤ 11) (hh : popsF k ≤ h) : opErr h (bareOp k) = 0 := by
  unfold opErr bareOp
  simp only [lit_noVl, zero_noVl, no_name]
  rw [if_neg (by omega), if_neg (by simp), if_neg (by simp), if_neg (by omega), if_neg (by omega)]
theorem leaf_runs {h : Int} (h0 : 0 ≤ h) (k n : Int) (s : ByteArray) : runs h (leafOps k n s) = some (h + 1) := by
  unfold leafOps
  split
  · rw [runs, if_pos (err_col h0 n), runs]; rfl
  · rw [runs, if_pos (err_lit h0 n s), runs]; rfl
theorem ops_runs : ∀ (r : Nat) (t : Tw) (h : Int), 0 ≤ h → runs h (opsAt r t) = some (h + 1)
  | 0, .mk k n s ts, h, h0 => leaf_runs h0 k n s
  | r + 1, .mk k n s ts, h, h0 => by
    have hsub : ∀ (i : Nat) (h : Int), 0 ≤ h → runs h (subO r ts n s i) = some (h + 1) := fun i h h0 => by
      unfold subO
      split
      · exact ops_runs r _ h h0
      · exact leaf_runs h0 _ _ _
    have hk := pickedF_bd k (by decide : (1 : Int) ≤ 11)
    rw [ops_step]
    split
    · rw [runs, if_pos (err_lit h0 n s), runs]; rfl
    · split
      · rw [runs, if_pos (err_col h0 n), runs]; rfl
      · split
        · rename_i h3
          rw [runs_append, hsub 0 h h0, Option.bind_some, runs, if_pos (err_bare (by omega) (by omega) (by unfold popsF; rw [if_neg (by omega), if_pos h3]; omega)), runs]
          unfold bareOp popsF
          rw [if_neg (by simp only []; omega), if_pos h3]
          simp
        · rename_i h3
          rw [runs_append, runs_append, hsub 0 h h0, Option.bind_some, hsub 1 (h + 1) (by omega), Option.bind_some, runs, if_pos (err_bare (by omega) (by omega) (by unfold popsF; rw [if_neg (by omega), if_neg h3]; omega)), runs]
          unfold bareOp popsF
          rw [if_neg (by simp only []; omega), if_neg h3]
          congr 1; omega
theorem ops_short (t : Tw) : 1 ≤ (opsAt 3 t).length ∧ (opsAt 3 t).length ≤ 15 := by
  have := ops_len 3 t
  omega
theorem whole_ops (t : Tw) : exprF (opsAt 3 t) = 0 := by
  unfold exprF
  rw [if_neg (by have := ops_short t; omega)]
  have := exprL_runs [] (ops_runs 3 t 0 (Int.le_refl _))
  rw [List.append_nil] at this
  rw [this]; rfl
theorem whole_twice (t : Tw) : exprF (([] ++ opsAt 3 t) ++ opsAt 3 t) = 7 := by
  unfold exprF
  rw [List.nil_append, if_neg (by have := ops_short t; rw [List.length_append]; omega), exprL_runs _ (ops_runs 3 t 0 (Int.le_refl _))]
  have := exprL_runs [] (ops_runs 3 t (0 + 1) (by decide))
  rw [List.append_nil] at this
  rw [this]; rfl
theorem whole_not (t : Tw) : exprF ([bareOp 5] ++ opsAt 3 t) = 7 := by
  unfold exprF
  rw [if_neg (by have := ops_short t; rw [List.length_append, List.length_singleton]; omega)]
  have he : opErr 0 (bareOp 5) = 7 := by
    unfold opErr bareOp
    simp only [lit_noVl, zero_noVl, no_name]
    rfl
  rw [List.singleton_append, exprL, if_neg (by rw [he]; decide), he]
theorem whole_kind (t : Tw) (j : Nat) : exprF (([] ++ (opsAt 3 t).take j) ++ [bareOp 12]) = 2 := by
  unfold exprF
  rw [List.nil_append, if_neg (by have := ops_short t; rw [List.length_append, List.length_take, List.length_singleton]; omega)]
  obtain ⟨h2, he⟩ := runs_take j (ops_runs 3 t 0 (Int.le_refl _))
  rw [exprL_runs _ he]
  have h3 : opErr h2 (bareOp 12) = 2 := by unfold opErr bareOp; rfl
  rw [exprL, if_neg (by rw [h3]; decide), h3]
theorem cO_names (t : Tw) : ∀ o ∈ opsAt 3 t, o.nm.size ≤ 2 := by
  have hn : ∀ j : Int, (nameC j).size ≤ 2 := fun j => by
    unfold nameC
    split
    · decide
    · split
      · decide
      · split <;> decide
  have hleaf : ∀ k n s, ∀ o ∈ leafOps k n s, o.nm.size ≤ 2 := fun k n s o ho => by
    unfold leafOps at ho
    split at ho <;> (simp only [List.mem_singleton] at ho; subst ho)
    · exact hn _
    · exact Nat.zero_le _
  have key : ∀ (r : Nat) (t : Tw), ∀ o ∈ opsAt r t, o.nm.size ≤ 2 := by
    intro r
    induction r with
    | zero => intro t; obtain ⟨k, n, s, ts⟩ := t; exact hleaf k n s
    | succ r ih =>
      intro t o ho
      obtain ⟨k, n, s, ts⟩ := t
      have hsub : ∀ i : Nat, ∀ o ∈ subO r ts n s i, o.nm.size ≤ 2 := fun i o ho => by
        unfold subO at ho
        split at ho
        · exact ih _ o ho
        · exact hleaf _ _ _ o ho
      have hb : ∀ k, (bareOp k).nm.size ≤ 2 := fun k => Nat.zero_le _
      rw [ops_step] at ho
      split at ho
      · simp only [List.mem_singleton] at ho; subst ho; exact Nat.zero_le _
      · split at ho
        · simp only [List.mem_singleton] at ho; subst ho; exact hn _
        · split at ho
          · rcases List.mem_append.1 ho with ho | ho
            · exact hsub 0 o ho
            · simp only [List.mem_singleton] at ho; subst ho; exact hb _
          · rcases List.mem_append.1 ho with ho | ho
            · rcases List.mem_append.1 ho with ho | ho
              · exact hsub 0 o ho
              · exact hsub 1 o ho
            · simp only [List.mem_singleton] at ho; subst ho; exact hb _
  exact key 3 t
theorem names_ok {l : List OpL} (h : ∀ o ∈ l, o.nm.size ≤ 2) : ∀ o ∈ l, o.nm.size ≤ maxLen := fun o ho => Nat.le_trans (h o ho) (by decide)
variable {G : List (Nat × List Value)}

theorem info52_Nm6 : (Tryd.prog.info? 52).map (fun i => (i.zero, i.size, i.bytes)) = some (some (.agg #[.int .i64 0, .int .i64 0, .int .i64 0, .string ⟨#[]⟩, .string ⟨#[]⟩]), 5, 56) := by kernel_rfl

theorem places52_Nm6 : ∀ w, ((#[{ name := "Kind", type := 3, offset := 0, embedded := false, tag := "", pkgPath := "", byteOffset := 0 }, { name := "Value", type := 30, offset := 1, embedded := false, tag := "", pkgPath := "", byteOffset := 8 }, { name := "Name", type := 9, offset := 4, embedded := false, tag := "", pkgPath := "", byteOffset := 40 }] : Array Field).mapM fun f => do pure (f.offset, ← sizeOf f.type) : Sem (Array (Nat × Nat))).run Tryd.prog w = .ok #[(0, 1), (1, 3), (4, 1)] w := fun w => by simp [Tryd.sizeOf3, Tryd.sizeOf30, Tryd.sizeOf9]

set_option maxHeartbeats 4000000 in
set_option maxRecDepth 100000 in
theorem whole_vp (hm : (1, marksC) ∈ G) (hw : (0, wordsC) ∈ G) (t : Tw) (ht : t.Ok) (a : Int) (h1 : -9223372036854775808 ≤ a) (h2 : a ≤ 9223372036854775807) : VP Tryd.prog G 10 [.agg t.cs, .v (.int .i64 a)] (.v (.bool true)) := by
  refine VC.body Tryd.func10 rfl Tryd.ntmps10 (Nat.le_of_ble_eq_true rfl) fun X0 w0 S00 => ?_
  have hsh := ops_short t
  have hp := pickedF_bd a (show (1 : Int) ≤ ((opsAt 3 t).length : Nat) + 1 by omega)
  obtain ⟨j, hj⟩ := Int.eq_ofNat_of_zero_le hp.1
  have hjl : j ≤ (opsAt 3 t).length := by omega
  have hpk := picked_vp G a (((opsAt 3 t).length : Nat) + 1) h1 h2 (by omega)
  rw [hj] at hpk
  obtain ⟨k, n, s, ts⟩ := t
  have hO := Ops_vp (G := G) _ ht
  generalize ht0 : (Tw.mk k n s ts) = t at *
  rw [← ht0] at hO
  unfold Tw.cs at hO
  rw [ht0] at hO
  rw [← ht0]
  unfold Tw.cs
  refine CD.seq ?_
  refine CD.region ?_
  refine OD.box (ds := [_, _, _, _]) (wants_plain rfl) rfl rfl ot rfl rfl (fun b2 => ?_)
  refine OD.still (wants_plain rfl) rfl (still_as rfl opd_const) ?_
  refine OD.wk (Wk.as_ (n := 56) (l' := [(1, _), (2, _)]) (S' := [⟨b2, 47, 4, [_, _, _, _]⟩]) rfl rfl ⟨lk, lk, trivial⟩) ?_
  refine OD.nil ?_
  refine CD.seq ?_
  refine CD.region ?_
  refine OD.still (wants_plain rfl) rfl (still_r1 (mk := Op.load 47) rfl ot (by first | exact ld_blks (k := 0) (ds := [_, _, _, _]) rfl rfl Tryd.isAgg47 Tryd.sizeOf47 rfl rfl | exact ld_fms cO_len Tryd.isAgg47 Tryd.sizeOf47 (by first | assumption | omega) | exact ld_rows (k := 0) cO_len rfl rfl rfl Tryd.isAgg47 Tryd.sizeOf47 (by first | assumption | omega) | exact ld_is (ds := [_, _, _, _]) Tryd.isAgg47 Tryd.sizeOf47 rfl rfl)) ?_
  refine OD.callP (wants_plain rfl) rfl rfl rfl Tryd.call20 (hO) ⟨ot, trivial⟩ ?_
  refine OD.still (wants_plain rfl) rfl (still_as rfl ot) ?_
  refine OD.wk (Wk.as_ (n := 56) (l' := [(1, _), (5, _)]) (S' := [⟨b2, 47, 4, [_, _, _, _]⟩]) rfl rfl ⟨lk, lk, trivial⟩) ?_
  refine OD.nil ?_
  refine CD.seq ?_
  refine CD.region ?_
  refine OD.still (wants_plain rfl) rfl (still_mv rfl ot) ?_
  refine OD.still (wants_plain rfl) rfl (still_mv rfl ot) ?_
  refine OD.still (wants_plain rfl) rfl (still_r1 (mk := fun y => .call { callee := .builtin .len, args := #[y], argTypes := #[48] }) rfl ot (by first | exact len_list rfl Tryd.runUnderlying48 | exact len_row rfl Tryd.runUnderlying48)) ?_
  refine OD.still (wants_plain rfl) rfl (still_bin rfl ot opd_const (bin_add (wrap_i64 (by omega) (by omega)))) ?_
  refine OD.callP (wants_plain rfl) rfl rfl rfl Tryd.call15 (hpk) ⟨ot, ot, trivial⟩ ?_
  refine OD.still (wants_plain rfl) rfl (still_as rfl ot) ?_
  refine OD.wk (Wk.as_ (n := 56) (l' := [(5, _), (6, _)]) (S' := [⟨b2, 47, 4, [_, _, _, _]⟩]) rfl rfl ⟨lk, lk, trivial⟩) ?_
  refine OD.nil ?_
  refine CD.seq ?_
  refine CD.region ?_
  refine OD.still (wants_plain rfl) rfl (still_mv rfl ot) ?_
  refine OD.callP (wants_plain rfl) rfl rfl rfl Tryd.call21 (expr_vp hm hw (opsAt 3 t) (names_ok (cO_names t))) ⟨ot, trivial⟩ ?_
  refine OD.still (wants_plain rfl) rfl (still_as rfl ot) ?_
  refine OD.wk (Wk.as_ (n := 56) (l' := [(5, _), (6, _), (7, _)]) (S' := [⟨b2, 47, 4, [_, _, _, _]⟩]) rfl rfl ⟨lk, lk, lk, trivial⟩) ?_
  refine OD.nil ?_
  refine CD.seq ?_
  refine CD.region ?_
  refine OD.still (wants_plain rfl) rfl (still_mv rfl ot) ?_
  refine OD.appendG (ls := []) (new := (opsAt 3 t)) (Sq := []) cO_len cO_one (wants_plain rfl) rfl rfl Tryd.underlying48 info52_Nm6 rfl (by decide) opd_const ownL_nil (perm_r11 (A := [_])) ot (by omega) (by have hmx : maxLen = 9223372036854775807 := rfl; (try simp only [List.length_append, List.length_cons, List.length_nil, List.length_take]); omega) (by have hmx : maxLen = 9223372036854775807 := rfl; (try simp only [List.length_append, List.length_cons, List.length_nil, List.length_take]); omega) (fun b21 cp21 h121 h221 => ?_)
  refine OD.perm (perm_q11 (S1 := [⟨b21, 52, cp21 * 5, List.flatMap cO ([] ++ (opsAt 3 t))⟩]) (A := [_])) ?_
  refine OD.still (wants_plain rfl) rfl (still_mv rfl ot) ?_
  refine OD.appendG (ls := ([] ++ (opsAt 3 t))) (new := (opsAt 3 t)) (Sq := [⟨b21, 52, cp21 * 5, List.flatMap cO ([] ++ (opsAt 3 t))⟩]) cO_len cO_one (wants_plain rfl) rfl rfl Tryd.underlying48 info52_Nm6 rfl (by decide) ot (ownL_row h121 h221) (perm_r11 (A := [_])) ot (by omega) (by have hmx : maxLen = 9223372036854775807 := rfl; (try simp only [List.length_append, List.length_cons, List.length_nil, List.length_take]); omega) (by have hmx : maxLen = 9223372036854775807 := rfl; (try simp only [List.length_append, List.length_cons, List.length_nil, List.length_take]); omega) (fun b23 cp23 h123 h223 => ?_)
  refine OD.perm (perm_q11 (S1 := [⟨b23, 52, cp23 * 5, List.flatMap cO (([] ++ (opsAt 3 t)) ++ (opsAt 3 t))⟩]) (A := [_])) ?_
  refine OD.giveL (t := 23) (Sq := [⟨b23, 52, cp23 * 5, List.flatMap cO (([] ++ (opsAt 3 t)) ++ (opsAt 3 t))⟩]) lk (ownL_row h123 h223) (fm_len cO_len _) (perm_r11 (A := [_])) ?_
  refine OD.callP (wants_plain rfl) rfl rfl rfl Tryd.call21 (expr_vp hm hw (([] ++ opsAt 3 t) ++ opsAt 3 t) (names_ok fun o ho => by simp only [List.nil_append, List.mem_append, List.mem_singleton] at ho; rcases ho with ho | ho <;> first | exact cO_names t o ho | exact cO_names t o (List.mem_of_mem_take ho) | (subst ho; exact Nat.zero_le _))) ⟨ot, trivial⟩ ?_
  refine OD.still (wants_plain rfl) rfl (still_as rfl ot) ?_
  refine OD.wk (Wk.as_ (n := 56) (l' := [(5, _), (6, _), (7, _), (8, _)]) (S' := [⟨b2, 47, 4, [_, _, _, _]⟩]) rfl rfl ⟨lk, lk, lk, lk, trivial⟩) ?_
  refine OD.nil ?_
  refine CD.seq ?_
  refine CD.region ?_
  refine OD.still (wants_plain rfl) rfl (still_bld (pl := [(0, _)]) (ds := [_, _, _, _, _]) rfl Tryd.zeroValue52 Tryd.runUnderlying52 places52_Nm6 ⟨rfl, opd_const, trivial⟩ rfl rfl) ?_
  refine OD.bldS (pl := [(0, _)]) (zvs := [.int .i64 0, .int .i64 0, .int .i64 0, .string ⟨#[]⟩, .string ⟨#[]⟩]) (ds := [_, _, _, _, _]) (wants_plain rfl) rfl rfl Tryd.zeroValue52 Tryd.runUnderlying48 Tryd.sizeOf52 rfl rfl (by kernel_rfl) ⟨rfl, ot, trivial⟩ rfl rfl (fun b26 => ?_)
  refine OD.perm (perm_q11 (S1 := [⟨b26, 52, 1 * 5, List.flatMap cO ([bareOp 5])⟩]) (A := [_])) ?_
  refine OD.still (wants_plain rfl) rfl (still_mv rfl ot) ?_
  refine OD.appendG (ls := ([bareOp 5])) (new := (opsAt 3 t)) (Sq := [⟨b26, 52, 1 * 5, List.flatMap cO ([bareOp 5])⟩]) cO_len cO_one (wants_plain rfl) rfl rfl Tryd.underlying48 info52_Nm6 rfl (by decide) ot (ownL_row (g := cO) (sz := 5) (e := 52) (ls := [bareOp 5]) (Nat.le_refl _) (show 1 ≤ maxLen by decide)) (perm_r11 (A := [_])) ot (by omega) (by have hmx : maxLen = 9223372036854775807 := rfl; (try simp only [List.length_append, List.length_cons, List.length_nil, List.length_take]); omega) (by have hmx : maxLen = 9223372036854775807 := rfl; (try simp only [List.length_append, List.length_cons, List.length_nil, List.length_take]); omega) (fun b28 cp28 h128 h228 => ?_)
  refine OD.perm (perm_q11 (S1 := [⟨b28, 52, cp28 * 5, List.flatMap cO (([bareOp 5]) ++ (opsAt 3 t))⟩]) (A := [_])) ?_
  refine OD.giveL (t := 28) (Sq := [⟨b28, 52, cp28 * 5, List.flatMap cO (([bareOp 5]) ++ (opsAt 3 t))⟩]) lk (ownL_row h128 h228) (fm_len cO_len _) (perm_r11 (A := [_])) ?_
  refine OD.callP (wants_plain rfl) rfl rfl rfl Tryd.call21 (expr_vp hm hw ([bareOp 5] ++ opsAt 3 t) (names_ok fun o ho => by simp only [List.nil_append, List.mem_append, List.mem_singleton] at ho; rcases ho with ho | ho <;> first | exact cO_names t o ho | exact cO_names t o (List.mem_of_mem_take ho) | (subst ho; exact Nat.zero_le _))) ⟨ot, trivial⟩ ?_
  refine OD.still (wants_plain rfl) rfl (still_as rfl ot) ?_
  refine OD.wk (Wk.as_ (n := 56) (l' := [(5, _), (6, _), (7, _), (8, _), (9, _)]) (S' := [⟨b2, 47, 4, [_, _, _, _]⟩]) rfl rfl ⟨lk, lk, lk, lk, lk, trivial⟩) ?_
  refine OD.nil ?_
  refine CD.seq ?_
  refine CD.region ?_
  refine OD.still (wants_plain rfl) rfl (still_mv rfl ot) ?_
  refine OD.still (wants_plain rfl) rfl (still_mv rfl ot) ?_
  refine OD.still (wants_plain rfl) rfl (still_rs (l := 0) rfl ot trivial ⟨_, ot⟩ (by first | exact sl_head cO_len (fun h => by cases h) Tryd.runUnderlying48 Tryd.sizeOf52 (by omega) | exact sl_row (fun h => by cases h) Tryd.runUnderlying48 Tryd.sizeOf52 (by omega) | exact sl_list (fun _ => rfl) (fun h => by cases h) Tryd.runUnderlying48 Tryd.sizeOf52 (by omega) (by omega))) ?_
  refine OD.appendAny (ls := []) (new := ((opsAt 3 t).take j)) (Sq := []) cO_len cO_one (wants_plain rfl) rfl rfl Tryd.underlying48 info52_Nm6 rfl (by decide) Tryd.runUnderlying48 Tryd.sizeOf52 opd_const ownL_nil (perm_r11 (A := [_])) ot (by have hmx : maxLen = 9223372036854775807 := rfl; (try simp only [List.length_append, List.length_cons, List.length_nil, List.length_take]); omega) (by have hmx : maxLen = 9223372036854775807 := rfl; (try simp only [List.length_append, List.length_cons, List.length_nil, List.length_take]); omega) (fun ad33 cp33 S33 ho33 => ?_)
  refine OD.perm (perm_q11 (A := [_])) ?_
  refine OD.still (wants_plain rfl) rfl (still_bld (pl := [(0, _)]) (ds := [_, _, _, _, _]) rfl Tryd.zeroValue52 Tryd.runUnderlying52 places52_Nm6 ⟨rfl, opd_const, trivial⟩ rfl rfl) ?_
  refine OD.bldS (pl := [(0, _)]) (zvs := [.int .i64 0, .int .i64 0, .int .i64 0, .string ⟨#[]⟩, .string ⟨#[]⟩]) (ds := [_, _, _, _, _]) (wants_plain rfl) rfl rfl Tryd.zeroValue52 Tryd.runUnderlying48 Tryd.sizeOf52 rfl rfl (by kernel_rfl) ⟨rfl, ot, trivial⟩ rfl rfl (fun b35 => ?_)
  refine OD.give (k := 0) (t := 35) (sz := 5) (m := 1) rfl lk rfl rfl rfl (Nat.le_refl _) (by decide) ?_
  refine OD.appendG (ls := ([] ++ ((opsAt 3 t).take j))) (new := [bareOp 12]) (Sq := S33) cO_len cO_one (wants_plain rfl) rfl rfl Tryd.underlying48 info52_Nm6 rfl (by decide) ot ho33 (perm_r11 (A := [_])) ot (by simp) (by have hmx : maxLen = 9223372036854775807 := rfl; (try simp only [List.length_append, List.length_cons, List.length_nil, List.length_take]); omega) (by have hmx : maxLen = 9223372036854775807 := rfl; (try simp only [List.length_append, List.length_cons, List.length_nil, List.length_take]); omega) (fun b36 cp36 h136 h236 => ?_)
  refine OD.perm (perm_q11 (S1 := [⟨b36, 52, cp36 * 5, List.flatMap cO (([] ++ ((opsAt 3 t).take j)) ++ [bareOp 12])⟩]) (A := [_])) ?_
  refine OD.giveL (t := 36) (Sq := [⟨b36, 52, cp36 * 5, List.flatMap cO (([] ++ ((opsAt 3 t).take j)) ++ [bareOp 12])⟩]) lk (ownL_row h136 h236) (fm_len cO_len _) (perm_r11 (A := [_])) ?_
  refine OD.callP (wants_plain rfl) rfl rfl rfl Tryd.call21 (expr_vp hm hw (([] ++ (opsAt 3 t).take j) ++ [bareOp 12]) (names_ok fun o ho => by simp only [List.nil_append, List.mem_append, List.mem_singleton] at ho; rcases ho with ho | ho <;> first | exact cO_names t o ho | exact cO_names t o (List.mem_of_mem_take ho) | (subst ho; exact Nat.zero_le _))) ⟨ot, trivial⟩ ?_
  refine OD.still (wants_plain rfl) rfl (still_as rfl ot) ?_
  refine OD.wk (Wk.as_ (n := 56) (l' := [(7, _), (8, _), (9, _), (10, _)]) (S' := [⟨b2, 47, 4, [_, _, _, _]⟩]) rfl rfl ⟨lk, lk, lk, lk, trivial⟩) ?_
  refine OD.nil ?_
  refine CD.seq ?_
  refine CD.region ?_
  refine OD.still (wants_plain rfl) rfl (still_mv rfl ot) ?_
  refine OD.still (wants_plain rfl) rfl (still_bin rfl ot opd_const bin_eql) ?_
  refine OD.still (wants_plain rfl) rfl (still_mv rfl ot) ?_
  refine OD.split (t := 40) lk (fun hg40 => ?_) (fun hg40 => ?_)
  · have hg40' := hg40; (try simp only [decide_eq_true_eq, decide_eq_false_iff_not, beq_iff_eq, bne_iff_ne, Bool.not_eq_true', Bool.not_eq_false', Bool.not_eq_true, Bool.not_eq_false, beq_eq_false_iff_ne, ne_eq, bne_eq_false_iff_eq, Bool.and_eq_true, Bool.or_eq_true, Bool.not_not] at hg40')
    refine OD.still (wants_T rfl rfl rfl lk (by first | rfl | assumption)) rfl (still_mv rfl ot) ?_
    refine OD.still (wants_T rfl rfl rfl lk (by first | rfl | assumption)) rfl (still_bin rfl ot opd_const bin_eql) ?_
    refine OD.still (wants_plain rfl) rfl (still_pickT rfl ot (by first | rfl | assumption) ot) ?_
    refine OD.still (wants_plain rfl) rfl (still_mv rfl ot) ?_
    refine OD.split (t := 44) lk (fun hg44 => ?_) (fun hg44 => ?_)
    · have hg44' := hg44; (try simp only [decide_eq_true_eq, decide_eq_false_iff_not, beq_iff_eq, bne_iff_ne, Bool.not_eq_true', Bool.not_eq_false', Bool.not_eq_true, Bool.not_eq_false, beq_eq_false_iff_ne, ne_eq, bne_eq_false_iff_eq, Bool.and_eq_true, Bool.or_eq_true, Bool.not_not] at hg44')
      refine OD.still (wants_T rfl rfl rfl lk (by first | rfl | assumption)) rfl (still_mv rfl ot) ?_
      refine OD.still (wants_T rfl rfl rfl lk (by first | rfl | assumption)) rfl (still_bin rfl ot opd_const bin_eql) ?_
      refine OD.still (wants_plain rfl) rfl (still_pickT rfl ot (by first | rfl | assumption) ot) ?_
      refine OD.still (wants_plain rfl) rfl (still_mv rfl ot) ?_
      refine OD.split (t := 48) lk (fun hg48 => ?_) (fun hg48 => ?_)
      · have hg48' := hg48; (try simp only [decide_eq_true_eq, decide_eq_false_iff_not, beq_iff_eq, bne_iff_ne, Bool.not_eq_true', Bool.not_eq_false', Bool.not_eq_true, Bool.not_eq_false, beq_eq_false_iff_ne, ne_eq, bne_eq_false_iff_eq, Bool.and_eq_true, Bool.or_eq_true, Bool.not_not] at hg48')
        refine OD.still (wants_T rfl rfl rfl lk (by first | rfl | assumption)) rfl (still_mv rfl ot) ?_
        refine OD.still (wants_T rfl rfl rfl lk (by first | rfl | assumption)) rfl (still_bin rfl ot opd_const bin_eql) ?_
        refine OD.still (wants_plain rfl) rfl (still_pickT rfl ot (by first | rfl | assumption) ot) ?_
        refine OD.still (wants_plain rfl) rfl (still_mv rfl ot) ?_
        refine OD.split (t := 52) lk (fun hg52 => ?_) (fun hg52 => ?_)
        · have hg52' := hg52; (try simp only [decide_eq_true_eq, decide_eq_false_iff_not, beq_iff_eq, bne_iff_ne, Bool.not_eq_true', Bool.not_eq_false', Bool.not_eq_true, Bool.not_eq_false, beq_eq_false_iff_ne, ne_eq, bne_eq_false_iff_eq, Bool.and_eq_true, Bool.or_eq_true, Bool.not_not] at hg52')
          refine OD.look (wants_T rfl rfl rfl lk (by first | rfl | assumption)) rfl rfl rfl Tryd.call21 (expr_vp hm hw [] (fun o ho => by cases ho)) rfl ⟨⟨_, opd_const, view_nil⟩, trivial⟩ ?_
          refine OD.still (wants_T rfl rfl rfl lk (by first | rfl | assumption)) rfl (still_bin rfl ot opd_const bin_eql) ?_
          refine OD.still (wants_plain rfl) rfl (still_pickT rfl ot (by first | rfl | assumption) ot) ?_
          refine OD.still (wants_plain rfl) rfl (still_as rfl ot) ?_
          refine OD.wk (Wk.as_ (n := 56) (l' := [(4, _)]) (S' := [⟨b2, 47, 4, [_, _, _, _]⟩]) rfl rfl ⟨lk, trivial⟩) ?_
          refine OD.nil ?_
          refine CD.ret ?_
          refine ⟨.inr rfl, _, [], List.nil_sublist _, ret_one Tryd.results10 (res_tmp (Nat.le_of_ble_eq_true rfl) lk), ?_⟩
          exact ⟨rfl, rfl⟩
        · exact absurd hg52 (by rw [whole_kind] at hg52; simp at hg52)
      · exact absurd hg48 (by rw [whole_not] at hg48; simp at hg48)
    · exact absurd hg44 (by rw [whole_twice] at hg44; simp at hg44)
  · exact absurd hg40 (by rw [whole_ops] at hg40; simp at hg40)

set_option maxRecDepth 100000 in
theorem rd_twigF {H : Type} {enc : TypeId × Value → H} {w : World} {base : Nat} {sp : Nat → Bool} {held : Bool} : ∀ n, RdsF n enc Tryd.prog w base sp held 47 Tw.cs Tw.Ok := by
  intro n
  induction n using Nat.strongRecOn with
  | _ n ih =>
    intro cs x h
    obtain ⟨⟨k, m, s, ts⟩, h1, h2, h3, h4, h5⟩ := rd_struct4 (fuel := n) (n0 := 1) (n1 := 1) (n2 := 1) (n3 := 1) Tryd.underlying47 (by kernel_rfl) rfl rfl rfl rfl (by kernel_rfl) (by kernel_rfl) (by kernel_rfl) (by kernel_rfl)
      (fun q _ => (rd_int Tryd.underlying3).at q) (fun q _ => (rd_int Tryd.underlying3).at q) (fun q _ => (rd_string Tryd.underlying9).at q) (fun q hq => rd_sliceF (sz := 4) Tryd.underlying45 (by kernel_rfl) (by decide) (fun z hz => ih z (by omega)) Tw.cs_len) cs x h
    refine ⟨.mk k m s ts, ?_, h2, h3, h4, h5.2, Tw.all_oks h5.1⟩
    unfold Tw.cs
    rw [Tw.css_eq]
    exact h1
set_option maxRecDepth 100000 in
theorem rd_twig {H : Type} {enc : TypeId × Value → H} {w : World} {base b' : Nat} {sp : Nat → Bool} {held : Bool} {v : Value} {d : DataW H} {p : List MemPlace} (hval : Value.okWide Tryd.prog w .any b' 47 v) (h : DataW.Trod enc Tryd.prog w base sp held 47 v d p) :
    ∃ t : Tw, Rep w (fun _ => False) (.agg t.cs) v ∧ t.Ok ∧ True := rd_arg Tryd.underlying47 rd_twigF hval h
set_option maxRecDepth 100000 in
theorem walkOpsWhole (t : Tw) (v : Value) (ok : t.Ok) (a : Int) (wa : (Lit.int .i64 a).wf = true) (w : World) (h1 : MarksTab w) (h2 : WordsTab w) (hv : Rep w (fun _ => False) (.agg t.cs) v) : Calls Tryd.prog 10 #[v, .int .i64 a] w fun e w' => e = .returned (.bool true) ∧ Below w.heap.size w w' :=
  (whole_vp (G := [(1, marksC), (0, wordsC)]) List.mem_cons_self (List.mem_cons_of_mem _ List.mem_cons_self) t ok a (wf_bd wa).1 (wf_bd wa).2).runL
    (fun g hg => by
      simp only [List.mem_cons, List.not_mem_nil, or_false] at hg
      rcases hg with rfl | rfl
      · exact ⟨by decide, h1⟩
      · exact ⟨by decide, h2⟩) (vs := [v, _]) (RepL.cons hv (RepL.vs w _ [_]))

end Go.Proofs.YtoemmoeedhllfaaDoor.Nm
