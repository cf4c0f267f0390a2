/-
  What the proof of OpsWhole leans on, part 3 of 4: walks of the program's functions at the level of values, and plain facts of what they compute.
-/
import Derived.Test.YtoemmoeedhllfaaDoorPOpsWhole2
namespace Go.Proofs.YtoemmoeedhllfaaDoor.Nm
open Go.RowKit V Pk Vl
set_option linter.unusedVariables false
set_option linter.unusedSimpArgs false

theorem eqs30 (x y : Vl) : ∀ w, (Op.equalIn 10000 30 (.agg [.int .i64 x.k, .int .i64 x.n, .string x.s].toArray) (.agg [.int .i64 y.k, .int .i64 y.n, .string y.s].toArray)).run Tryd.prog w = .ok (x.k == y.k && (x.n == y.n && x.s.toList == y.s.toList)) w := fun w => by
  have hS : Tryd.prog.underlying 30 = some (.struct (Tryd.prog.fieldsOf 30)) := by kernel_rfl
  have hp : Tryd.prog.stoodInHeld 30 = false := by kernel_rfl
  rw [show (10000 : Nat) = 9999 + 1 from rfl, run_equalIn_agg w 9999 30 _ _ hS hp]
  have u := Tryd.underlying30
  have u3 := Tryd.underlying3
  have u9 := Tryd.underlying9
  have a3 := Tryd.isAgg3
  have a9 := Tryd.isAgg9
  have z3 := Tryd.sizeOf3
  have z9 := Tryd.sizeOf9
  simp only [Program.fieldsOf, u]
  go_simp
  by_cases h1 : x.k = y.k <;> by_cases h2 : x.n = y.n <;> by_cases h3 : x.s.toList = y.s.toList <;> simp [h1, h2, h3]

def litF (v : Vl) : Int := if v.k = 2 ∧ v.n = -9223372036854775808 then 3 else checkV v
structure OpL where
  k : Int
  v : Vl
  nm : ByteArray
def cO (o : OpL) : List D := [.v (.int .i64 o.k), .v (.int .i64 o.v.k), .v (.int .i64 o.v.n), .v (.string o.v.s), .v (.string o.nm)]
theorem cO_len (o : OpL) : (cO o).length = 5 := rfl
theorem cO_one (o : OpL) : (cO o).all one = true := rfl
def popsF (k : Int) : Int := if k = 1 ∨ k = 2 then 0 else if k = 5 ∨ k = 11 then 1 else 2
theorem pops_bd (k : Int) : 0 ≤ popsF k ∧ popsF k ≤ 2 := by unfold popsF; split <;> (try split) <;> omega
def zeroV (v : Vl) : Bool := v.k == 0 && (v.n == 0 && v.s.toList == (⟨#[]⟩ : ByteArray).toList)
/-- What is wrong with an op, on a stack that is so high. -/
def opErr (h : Int) (o : OpL) : Int :=
  if o.k < 1 ∨ o.k > 11 then 2
  else if litF o.v ≠ 0 then litF o.v
  else if ((o.k != 1 && !(zeroV o.v)) || (o.k != 2 && !(o.nm.toList == (⟨#[]⟩ : ByteArray).toList))) = true then 6
  else if o.k = 2 ∧ nameF o.nm ≠ 0 then nameF o.nm
  else if h < popsF o.k then 7 else 0
def exprL : Int → List OpL → Int
  | h, [] => if h = 1 then 0 else 7
  | h, o :: r => if opErr h o = 0 then exprL (h + (1 - popsF o.k)) r else opErr h o
def exprF (l : List OpL) : Int := if l.length > 40 then 10 else exprL 0 l
theorem exprL_ok {l : List OpL} {i : Nat} {h : Int} (hi : i < l.length) (he : opErr h l[i] = 0) : exprL h (l.drop i) = exprL (h + (1 - popsF l[i].k)) (l.drop (i + 1)) := by
  rw [List.drop_eq_getElem_cons hi, exprL, if_pos he]
theorem exprL_no {l : List OpL} {i : Nat} {h e : Int} (hi : i < l.length) (he : opErr h l[i] = e) (h0 : e ≠ 0) : exprL h (l.drop i) = e := by
  rw [List.drop_eq_getElem_cons hi, exprL, if_neg (by rw [he]; exact h0), he]
theorem exprL_end {l : List OpL} {i : Nat} {h : Int} (hi : l.length ≤ i) : exprL h (l.drop i) = if h = 1 then 0 else 7 := by
  rw [List.drop_of_length_le hi, exprL]
variable {G : List (Nat × List Value)}

theorem literal_vp (v : Vl) : VP Tryd.prog G 37 [.agg (cV v)] (.v (.int .i64 (litF v))) := by
  refine VC.body Tryd.func37 rfl Tryd.ntmps37 (Nat.le_of_ble_eq_true rfl) fun X0 w0 S00 => ?_
  unfold cV
  refine CD.seq ?_
  refine CD.region ?_
  refine OD.box (ds := [_, _, _]) (wants_plain rfl) rfl rfl ot rfl rfl (fun b1 => ?_)
  refine OD.still (wants_plain rfl) rfl (still_as rfl opd_const) ?_
  refine OD.wk (Wk.as_ (n := 13) (l' := [(1, _)]) (S' := [⟨b1, 30, 3, [_, _, _]⟩]) rfl rfl ⟨lk, trivial⟩) ?_
  refine OD.nil ?_
  refine CD.seq ?_
  refine CD.seq ?_
  refine CD.region ?_
  refine OD.still (wants_plain rfl) rfl (still_r1 (mk := fun y => Op.fieldAddr 30 y 0) rfl ot (by first | exact fa_ptr (off := 0) Tryd.runUnderlying30 rfl Tryd.sizeOf3 rfl | exact fa_iptr (off := 0) Tryd.runUnderlying30 rfl Tryd.sizeOf3 rfl)) ?_
  refine OD.still (wants_plain rfl) rfl (still_r1 (mk := Op.load 3) rfl ot (by first | exact ld_blk (k := 0) rfl rfl Tryd.isAgg3 rfl | exact ld_i Tryd.isAgg3 rfl)) ?_
  refine OD.still (wants_plain rfl) rfl (still_bin rfl ot opd_const bin_eql) ?_
  refine OD.still (wants_plain rfl) rfl (still_mv rfl ot) ?_
  refine OD.split (t := 6) lk (fun hg6 => ?_) (fun hg6 => ?_)
  · have hg6' := hg6; (try simp only [decide_eq_true_eq, decide_eq_false_iff_not, beq_iff_eq, bne_iff_ne, Bool.not_eq_true', Bool.not_eq_false', Bool.not_eq_true, Bool.not_eq_false, beq_eq_false_iff_ne, ne_eq, bne_eq_false_iff_eq, Bool.and_eq_true, Bool.or_eq_true, Bool.not_not] at hg6')
    refine OD.still (wants_T rfl rfl rfl lk (by first | rfl | assumption)) rfl (still_r1 (mk := fun y => Op.fieldAddr 30 y 1) rfl ot (by first | exact fa_ptr (off := 1) Tryd.runUnderlying30 rfl Tryd.sizeOf3 rfl | exact fa_iptr (off := 1) Tryd.runUnderlying30 rfl Tryd.sizeOf3 rfl)) ?_
    refine OD.still (wants_T rfl rfl rfl lk (by first | rfl | assumption)) rfl (still_r1 (mk := Op.load 3) rfl ot (by first | exact ld_blk (k := 0) rfl rfl Tryd.isAgg3 rfl | exact ld_i Tryd.isAgg3 rfl)) ?_
    refine OD.still (wants_T rfl rfl rfl lk (by first | rfl | assumption)) rfl (still_bin rfl ot opd_const bin_eql) ?_
    refine OD.still (wants_plain rfl) rfl (still_pickT rfl ot (by first | rfl | assumption) ot) ?_
    refine OD.wk (Wk.as_ (n := 13) (l' := [(1, _), (10, _)]) (S' := [⟨b1, 30, 3, [_, _, _]⟩]) rfl rfl ⟨lk, lk, trivial⟩) ?_
    refine OD.nil ?_
    refine CD.cond ot (fun hc0 => ?_) (fun hc0 => ?_)
    · have hc0' := hc0
      (try simp only [decide_eq_true_eq, decide_eq_false_iff_not, beq_iff_eq, bne_iff_ne, Bool.not_eq_true', Bool.not_eq_false', Bool.not_eq_true, Bool.not_eq_false, beq_eq_false_iff_ne, ne_eq, bne_eq_false_iff_eq, Bool.and_eq_true, Bool.or_eq_true, Bool.not_not, Bool.and_eq_false_iff, Bool.or_eq_false_iff, Int.not_lt, Int.not_le] at hc0')
      refine CD.seq ?_
      refine CD.region ?_
      refine OD.still (wants_plain rfl) rfl (still_as rfl opd_const) ?_
      refine OD.wk (Wk.as_ (n := 13) (l' := [(2, _)]) (S' := [⟨b1, 30, 3, [_, _, _]⟩]) rfl rfl ⟨lk, trivial⟩) ?_
      refine OD.nil ?_
      refine CD.ret ?_
      refine ⟨.inr rfl, _, [], List.nil_sublist _, ret_one Tryd.results37 (res_tmp (Nat.le_of_ble_eq_true rfl) lk), ?_⟩
      refine ⟨vi ?_, rfl⟩
      unfold litF
      simp_all
    · have hc0' := hc0
      (try simp only [decide_eq_true_eq, decide_eq_false_iff_not, beq_iff_eq, bne_iff_ne, Bool.not_eq_true', Bool.not_eq_false', Bool.not_eq_true, Bool.not_eq_false, beq_eq_false_iff_ne, ne_eq, bne_eq_false_iff_eq, Bool.and_eq_true, Bool.or_eq_true, Bool.not_not, Bool.and_eq_false_iff, Bool.or_eq_false_iff, Int.not_lt, Int.not_le] at hc0')
      refine CD.skip ?_
      refine CD.seq ?_
      refine CD.region ?_
      refine OD.still (wants_plain rfl) rfl (still_r1 (mk := Op.load 30) rfl ot (by first | exact ld_blks (k := 0) (ds := [_, _, _]) rfl rfl Tryd.isAgg30 Tryd.sizeOf30 rfl rfl | exact ld_is (ds := [_, _, _]) Tryd.isAgg30 Tryd.sizeOf30 rfl rfl)) ?_
      refine OD.callP (wants_plain rfl) rfl rfl rfl Tryd.call29 (Vl.check_vp v) ⟨ot, trivial⟩ ?_
      refine OD.still (wants_plain rfl) rfl (still_as rfl ot) ?_
      refine OD.wk (Wk.as_ (n := 13) (l' := [(2, _)]) (S' := [⟨b1, 30, 3, [_, _, _]⟩]) rfl rfl ⟨lk, trivial⟩) ?_
      refine OD.nil ?_
      refine CD.ret ?_
      refine ⟨.inr rfl, _, [], List.nil_sublist _, ret_one Tryd.results37 (res_tmp (Nat.le_of_ble_eq_true rfl) lk), ?_⟩
      refine ⟨vi ?_, rfl⟩
      unfold litF
      simp_all
  · have hg6' := hg6; (try simp only [decide_eq_true_eq, decide_eq_false_iff_not, beq_iff_eq, bne_iff_ne, Bool.not_eq_true', Bool.not_eq_false', Bool.not_eq_true, Bool.not_eq_false, beq_eq_false_iff_ne, ne_eq, bne_eq_false_iff_eq, Bool.and_eq_true, Bool.or_eq_true, Bool.not_not] at hg6')
    refine OD.skip (wants_F rfl rfl rfl lk (by first | rfl | assumption)) rfl ?_
    refine OD.skip (wants_F rfl rfl rfl lk (by first | rfl | assumption)) rfl ?_
    refine OD.skip (wants_F rfl rfl rfl lk (by first | rfl | assumption)) rfl ?_
    refine OD.still (wants_plain rfl) rfl (still_pickF rfl ot (by first | rfl | assumption) opd_const) ?_
    refine OD.wk (Wk.as_ (n := 13) (l' := [(1, _), (10, _)]) (S' := [⟨b1, 30, 3, [_, _, _]⟩]) rfl rfl ⟨lk, lk, trivial⟩) ?_
    refine OD.nil ?_
    refine CD.condF ot (by first | rfl | assumption) ?_
    refine CD.skip ?_
    refine CD.seq ?_
    refine CD.region ?_
    refine OD.still (wants_plain rfl) rfl (still_r1 (mk := Op.load 30) rfl ot (by first | exact ld_blks (k := 0) (ds := [_, _, _]) rfl rfl Tryd.isAgg30 Tryd.sizeOf30 rfl rfl | exact ld_is (ds := [_, _, _]) Tryd.isAgg30 Tryd.sizeOf30 rfl rfl)) ?_
    refine OD.callP (wants_plain rfl) rfl rfl rfl Tryd.call29 (Vl.check_vp v) ⟨ot, trivial⟩ ?_
    refine OD.still (wants_plain rfl) rfl (still_as rfl ot) ?_
    refine OD.wk (Wk.as_ (n := 13) (l' := [(2, _)]) (S' := [⟨b1, 30, 3, [_, _, _]⟩]) rfl rfl ⟨lk, trivial⟩) ?_
    refine OD.nil ?_
    refine CD.ret ?_
    refine ⟨.inr rfl, _, [], List.nil_sublist _, ret_one Tryd.results37 (res_tmp (Nat.le_of_ble_eq_true rfl) lk), ?_⟩
    refine ⟨vi ?_, rfl⟩
    unfold litF
    simp_all

theorem pops_vp (k : Int) : VP Tryd.prog G 38 [.v (.int .i64 k)] (.v (.int .i64 (popsF k))) := by
  refine VC.body Tryd.func38 rfl Tryd.ntmps38 (Nat.le_of_ble_eq_true rfl) fun X0 w0 S00 => ?_
  refine CD.seq ?_
  refine CD.region ?_
  refine OD.still (wants_plain rfl) rfl (still_as rfl opd_const) ?_
  refine OD.wk (Wk.as_ (n := 10) (l' := [(0, _)]) (S' := []) rfl rfl ⟨lk, trivial⟩) ?_
  refine OD.nil ?_
  refine CD.seq ?_
  refine CD.seq ?_
  refine CD.region ?_
  refine OD.still (wants_plain rfl) rfl (still_mv rfl ot) ?_
  refine OD.wk (Wk.as_ (n := 10) (l' := [(3, _)]) (S' := []) rfl rfl ⟨lk, trivial⟩) ?_
  refine OD.nil ?_
  refine CD.block ?_
  refine CD.seq ?_
  refine CD.seq ?_
  refine CD.region ?_
  refine OD.still (wants_plain rfl) rfl (still_bin rfl ot opd_const bin_eql) ?_
  refine OD.still (wants_plain rfl) rfl (still_as rfl ot) ?_
  refine OD.wk (Wk.as_ (n := 10) (l' := [(3, _), (4, _)]) (S' := []) rfl rfl ⟨lk, lk, trivial⟩) ?_
  refine OD.nil ?_
  refine CD.cond ot (fun hc0 => ?_) (fun hc0 => ?_)
  · have hc0' := hc0
    (try simp only [decide_eq_true_eq, decide_eq_false_iff_not, beq_iff_eq, bne_iff_ne, Bool.not_eq_true', Bool.not_eq_false', Bool.not_eq_true, Bool.not_eq_false, beq_eq_false_iff_ne, ne_eq, bne_eq_false_iff_eq, Bool.and_eq_true, Bool.or_eq_true, Bool.not_not, Bool.and_eq_false_iff, Bool.or_eq_false_iff, Int.not_lt, Int.not_le] at hc0')
    refine CD.skip ?_
    refine CD.condT ot (by first | rfl | assumption) ?_
    refine CD.seq ?_
    refine CD.region ?_
    refine OD.still (wants_plain rfl) rfl (still_as rfl opd_const) ?_
    refine OD.wk (Wk.as_ (n := 10) (l' := [(2, _)]) (S' := []) rfl rfl ⟨lk, trivial⟩) ?_
    refine OD.nil ?_
    refine CD.ret ?_
    refine ⟨.inr rfl, _, [], List.nil_sublist _, ret_one Tryd.results38 (res_tmp (Nat.le_of_ble_eq_true rfl) lk), ?_⟩
    refine ⟨vi ?_, rfl⟩
    unfold popsF
    simp_all
  · have hc0' := hc0
    (try simp only [decide_eq_true_eq, decide_eq_false_iff_not, beq_iff_eq, bne_iff_ne, Bool.not_eq_true', Bool.not_eq_false', Bool.not_eq_true, Bool.not_eq_false, beq_eq_false_iff_ne, ne_eq, bne_eq_false_iff_eq, Bool.and_eq_true, Bool.or_eq_true, Bool.not_not, Bool.and_eq_false_iff, Bool.or_eq_false_iff, Int.not_lt, Int.not_le] at hc0')
    refine CD.region ?_
    refine OD.still (wants_plain rfl) rfl (still_bin rfl ot opd_const bin_eql) ?_
    refine OD.still (wants_plain rfl) rfl (still_as rfl ot) ?_
    refine OD.wk (Wk.as_ (n := 10) (l' := [(3, _), (4, _)]) (S' := []) rfl rfl ⟨lk, lk, trivial⟩) ?_
    refine OD.nil ?_
    refine CD.cond ot (fun hc1 => ?_) (fun hc1 => ?_)
    · have hc1' := hc1
      (try simp only [decide_eq_true_eq, decide_eq_false_iff_not, beq_iff_eq, bne_iff_ne, Bool.not_eq_true', Bool.not_eq_false', Bool.not_eq_true, Bool.not_eq_false, beq_eq_false_iff_ne, ne_eq, bne_eq_false_iff_eq, Bool.and_eq_true, Bool.or_eq_true, Bool.not_not, Bool.and_eq_false_iff, Bool.or_eq_false_iff, Int.not_lt, Int.not_le] at hc1')
      refine CD.seq ?_
      refine CD.region ?_
      refine OD.still (wants_plain rfl) rfl (still_as rfl opd_const) ?_
      refine OD.wk (Wk.as_ (n := 10) (l' := [(2, _)]) (S' := []) rfl rfl ⟨lk, trivial⟩) ?_
      refine OD.nil ?_
      refine CD.ret ?_
      refine ⟨.inr rfl, _, [], List.nil_sublist _, ret_one Tryd.results38 (res_tmp (Nat.le_of_ble_eq_true rfl) lk), ?_⟩
      refine ⟨vi ?_, rfl⟩
      unfold popsF
      simp_all
    · have hc1' := hc1
      (try simp only [decide_eq_true_eq, decide_eq_false_iff_not, beq_iff_eq, bne_iff_ne, Bool.not_eq_true', Bool.not_eq_false', Bool.not_eq_true, Bool.not_eq_false, beq_eq_false_iff_ne, ne_eq, bne_eq_false_iff_eq, Bool.and_eq_true, Bool.or_eq_true, Bool.not_not, Bool.and_eq_false_iff, Bool.or_eq_false_iff, Int.not_lt, Int.not_le] at hc1')
      refine CD.seq ?_
      refine CD.seq ?_
      refine CD.region ?_
      refine OD.still (wants_plain rfl) rfl (still_bin rfl ot opd_const bin_eql) ?_
      refine OD.still (wants_plain rfl) rfl (still_as rfl ot) ?_
      refine OD.wk (Wk.as_ (n := 10) (l' := [(3, _), (7, _)]) (S' := []) rfl rfl ⟨lk, lk, trivial⟩) ?_
      refine OD.nil ?_
      refine CD.cond ot (fun hc2 => ?_) (fun hc2 => ?_)
      · have hc2' := hc2
        (try simp only [decide_eq_true_eq, decide_eq_false_iff_not, beq_iff_eq, bne_iff_ne, Bool.not_eq_true', Bool.not_eq_false', Bool.not_eq_true, Bool.not_eq_false, beq_eq_false_iff_ne, ne_eq, bne_eq_false_iff_eq, Bool.and_eq_true, Bool.or_eq_true, Bool.not_not, Bool.and_eq_false_iff, Bool.or_eq_false_iff, Int.not_lt, Int.not_le] at hc2')
        refine CD.skip ?_
        refine CD.condT ot (by first | rfl | assumption) ?_
        refine CD.seq ?_
        refine CD.region ?_
        refine OD.still (wants_plain rfl) rfl (still_as rfl opd_const) ?_
        refine OD.wk (Wk.as_ (n := 10) (l' := [(2, _)]) (S' := []) rfl rfl ⟨lk, trivial⟩) ?_
        refine OD.nil ?_
        refine CD.ret ?_
        refine ⟨.inr rfl, _, [], List.nil_sublist _, ret_one Tryd.results38 (res_tmp (Nat.le_of_ble_eq_true rfl) lk), ?_⟩
        refine ⟨vi ?_, rfl⟩
        unfold popsF
        simp_all
      · have hc2' := hc2
        (try simp only [decide_eq_true_eq, decide_eq_false_iff_not, beq_iff_eq, bne_iff_ne, Bool.not_eq_true', Bool.not_eq_false', Bool.not_eq_true, Bool.not_eq_false, beq_eq_false_iff_ne, ne_eq, bne_eq_false_iff_eq, Bool.and_eq_true, Bool.or_eq_true, Bool.not_not, Bool.and_eq_false_iff, Bool.or_eq_false_iff, Int.not_lt, Int.not_le] at hc2')
        refine CD.region ?_
        refine OD.still (wants_plain rfl) rfl (still_bin rfl ot opd_const bin_eql) ?_
        refine OD.still (wants_plain rfl) rfl (still_as rfl ot) ?_
        refine OD.wk (Wk.as_ (n := 10) (l' := [(7, _)]) (S' := []) rfl rfl ⟨lk, trivial⟩) ?_
        refine OD.nil ?_
        refine CD.cond ot (fun hc3 => ?_) (fun hc3 => ?_)
        · have hc3' := hc3
          (try simp only [decide_eq_true_eq, decide_eq_false_iff_not, beq_iff_eq, bne_iff_ne, Bool.not_eq_true', Bool.not_eq_false', Bool.not_eq_true, Bool.not_eq_false, beq_eq_false_iff_ne, ne_eq, bne_eq_false_iff_eq, Bool.and_eq_true, Bool.or_eq_true, Bool.not_not, Bool.and_eq_false_iff, Bool.or_eq_false_iff, Int.not_lt, Int.not_le] at hc3')
          refine CD.seq ?_
          refine CD.region ?_
          refine OD.still (wants_plain rfl) rfl (still_as rfl opd_const) ?_
          refine OD.wk (Wk.as_ (n := 10) (l' := [(2, _)]) (S' := []) rfl rfl ⟨lk, trivial⟩) ?_
          refine OD.nil ?_
          refine CD.ret ?_
          refine ⟨.inr rfl, _, [], List.nil_sublist _, ret_one Tryd.results38 (res_tmp (Nat.le_of_ble_eq_true rfl) lk), ?_⟩
          refine ⟨vi ?_, rfl⟩
          unfold popsF
          simp_all
        · have hc3' := hc3
          (try simp only [decide_eq_true_eq, decide_eq_false_iff_not, beq_iff_eq, bne_iff_ne, Bool.not_eq_true', Bool.not_eq_false', Bool.not_eq_true, Bool.not_eq_false, beq_eq_false_iff_ne, ne_eq, bne_eq_false_iff_eq, Bool.and_eq_true, Bool.or_eq_true, Bool.not_not, Bool.and_eq_false_iff, Bool.or_eq_false_iff, Int.not_lt, Int.not_le] at hc3')
          refine CD.skip ?_
          refine CD.seq ?_
          refine CD.region ?_
          refine OD.still (wants_plain rfl) rfl (still_as rfl opd_const) ?_
          refine OD.wk (Wk.as_ (n := 10) (l' := [(2, _)]) (S' := []) rfl rfl ⟨lk, trivial⟩) ?_
          refine OD.nil ?_
          refine CD.ret ?_
          refine ⟨.inr rfl, _, [], List.nil_sublist _, ret_one Tryd.results38 (res_tmp (Nat.le_of_ble_eq_true rfl) lk), ?_⟩
          refine ⟨vi ?_, rfl⟩
          unfold popsF
          simp_all

theorem places30_Nm3 : ∀ w, ((#[{ name := "Kind", type := 3, offset := 0, embedded := false, tag := "", pkgPath := "", byteOffset := 0 }, { name := "Int", type := 3, offset := 1, embedded := false, tag := "", pkgPath := "", byteOffset := 8 }, { name := "Text", type := 9, offset := 2, embedded := false, tag := "", pkgPath := "", byteOffset := 16 }] : Array Field).mapM fun f => do pure (f.offset, ← sizeOf f.type) : Sem (Array (Nat × Nat))).run Tryd.prog w = .ok #[(0, 1), (1, 1), (2, 1)] w := fun w => by simp [Tryd.sizeOf3, Tryd.sizeOf9]

set_option maxRecDepth 100000 in
set_option maxHeartbeats 1000000 in
theorem expr_vp (hm : (1, marksC) ∈ G) (hw : (0, wordsC) ∈ G) (l : List OpL) (hs : ∀ o ∈ l, o.nm.size ≤ maxLen) : VP Tryd.prog G 21 [.list 5 (l.flatMap cO) l.length] (.v (.int .i64 (exprF l))) := by
  refine VC.body Tryd.func21 rfl Tryd.ntmps21 (Nat.le_of_ble_eq_true rfl) fun X0 w0 S00 => ?_
  have hlx : l.length ≤ 40 ∨ 40 < l.length := by omega
  refine CD.seq ?_
  refine CD.region ?_
  refine OD.still (wants_plain rfl) rfl (still_as rfl opd_const) ?_
  refine OD.wk (Wk.as_ (n := 73) (l' := [(0, _)]) (S' := []) rfl rfl ⟨lk, trivial⟩) ?_
  refine OD.nil ?_
  refine CD.seq ?_
  refine CD.seq ?_
  refine CD.region ?_
  refine OD.still (wants_plain rfl) rfl (still_mv rfl ot) ?_
  refine OD.still (wants_plain rfl) rfl (still_r1 (mk := fun y => .call { callee := .builtin .len, args := #[y], argTypes := #[48] }) rfl ot (by first | exact len_list rfl Tryd.runUnderlying48 | exact len_row rfl Tryd.runUnderlying48)) ?_
  refine OD.still (wants_plain rfl) rfl (still_bin rfl ot opd_const bin_gtr) ?_
  refine OD.wk (Wk.as_ (n := 73) (l' := [(0, _), (10, _)]) (S' := []) rfl rfl ⟨lk, lk, trivial⟩) ?_
  refine OD.nil ?_
  refine CD.cond ot (fun hc0 => ?_) (fun hc0 => ?_)
  · have hc0' := hc0
    (try simp only [decide_eq_true_eq, decide_eq_false_iff_not, beq_iff_eq, bne_iff_ne, Bool.not_eq_true', Bool.not_eq_false', Bool.not_eq_true, Bool.not_eq_false, beq_eq_false_iff_ne, ne_eq, bne_eq_false_iff_eq, Bool.and_eq_true, Bool.or_eq_true, Bool.not_not, Bool.and_eq_false_iff, Bool.or_eq_false_iff, Int.not_lt, Int.not_le] at hc0')
    have hf : exprF l = 10 := if_pos (by omega)
    refine CD.seq ?_
    refine CD.region ?_
    refine OD.still (wants_plain rfl) rfl (still_as rfl opd_const) ?_
    refine OD.wk (Wk.as_ (n := 73) (l' := [(2, _)]) (S' := []) rfl rfl ⟨lk, trivial⟩) ?_
    refine OD.nil ?_
    refine CD.ret ?_
    refine ⟨.inr rfl, _, [], List.nil_sublist _, ret_one Tryd.results21 (res_tmp (Nat.le_of_ble_eq_true rfl) lk), ?_⟩
    refine ⟨vi ?_, rfl⟩
    first | exact hf.symm | (rw [hf, hx, exprL_no hlt herr (by first | assumption | decide)]; done) | (rw [hf, hend, if_pos (by simpa using hc8)]; done) | (rw [hf, hend, if_neg (by simpa using hc8)]; done)
  · have hc0' := hc0
    (try simp only [decide_eq_true_eq, decide_eq_false_iff_not, beq_iff_eq, bne_iff_ne, Bool.not_eq_true', Bool.not_eq_false', Bool.not_eq_true, Bool.not_eq_false, beq_eq_false_iff_ne, ne_eq, bne_eq_false_iff_eq, Bool.and_eq_true, Bool.or_eq_true, Bool.not_not, Bool.and_eq_false_iff, Bool.or_eq_false_iff, Int.not_lt, Int.not_le] at hc0')
    have hf : exprF l = exprL 0 l := if_neg (by omega)
    have h40 : l.length ≤ 40 := by omega
    refine CD.skip ?_
    refine CD.seq ?_
    refine CD.region ?_
    refine OD.still (wants_plain rfl) rfl (still_as rfl opd_const) ?_
    refine OD.wk (Wk.as_ (n := 73) (l' := [(0, _), (3, _)]) (S' := []) rfl rfl ⟨lk, lk, trivial⟩) ?_
    refine OD.nil ?_
    refine CD.seq ?_
    refine CD.seq ?_
    refine CD.region ?_
    refine OD.still (wants_plain rfl) rfl (still_mv rfl ot) ?_
    refine OD.still (wants_plain rfl) rfl (still_r1 (mk := fun y => .call { callee := .builtin .len, args := #[y], argTypes := #[48] }) rfl ot (by first | exact len_list rfl Tryd.runUnderlying48 | exact len_row rfl Tryd.runUnderlying48)) ?_
    refine OD.still (wants_plain rfl) rfl (still_mv rfl opd_const) ?_
    refine OD.wk (Wk.as_ (n := 73) (l' := [(3, _), (11, _), (12, _), (13, _)]) (S' := []) rfl rfl ⟨lk, lk, lk, lk, trivial⟩) ?_
    refine OD.nil ?_
    refine CD.block ?_
    refine CD.wk (Wk.asS (n := 73) (l' := [(3, .v (.int .i64 (0))), (11, .list 5 (l.flatMap cO) l.length), (12, .v (.int .i64 l.length)), (13, .v (.int .i64 ((0) : Nat)))]) (S' := []) rfl (by repeat (first | exact List.Sublist.refl _ | apply List.Sublist.cons)) ⟨(by (repeat (first | exact look_hit | (apply look_at; focus (first | rfl | (simp; done) | (congr 2; omega))) | (apply look_miss; focus rfl))); done), (by (repeat (first | exact look_hit | (apply look_at; focus (first | rfl | (simp; done) | (congr 2; omega))) | (apply look_miss; focus rfl))); done), (by (repeat (first | exact look_hit | (apply look_at; focus (first | rfl | (simp; done) | (congr 2; omega))) | (apply look_miss; focus rfl))); done), (by (repeat (first | exact look_hit | (apply look_at; focus (first | rfl | (simp; done) | (congr 2; omega))) | (apply look_miss; focus rfl))); done), trivial⟩) (CD.loop (fun (gh__ : Nat × Int) y__ => match gh__ with | (i, h) => (i ≤ l.length) ∧ (exprL 0 l = exprL h (l.drop i)) ∧ (0 ≤ h) ∧ (h ≤ i) ∧ y__ = (⟨73, [(3, .v (.int .i64 h)), (11, .list 5 (l.flatMap cO) l.length), (12, .v (.int .i64 l.length)), (13, .v (.int .i64 (i : Nat)))], []⟩ : St)) (fun (gh__ : Nat × Int) => match gh__ with | (i, h) => l.length - i) (0, 0) ⟨(Nat.zero_le _), rfl, (Int.le_refl _), (Int.le_refl _), rfl⟩ ?_)
    rintro ⟨i, h⟩ _ ⟨hi, hx, h0, hh, rfl⟩
    refine CD.seq ?_
    refine CD.region ?_
    refine OD.still (wants_plain rfl) rfl (still_bin rfl ot ot bin_lss) ?_
    refine OD.wk (Wk.as_ (n := 73) (l' := [(3, _), (11, _), (12, _), (13, _), (14, _)]) (S' := []) rfl rfl ⟨lk, lk, lk, lk, lk, trivial⟩) ?_
    refine OD.nil ?_
    refine CD.seq ?_
    refine CD.cond ot (fun hc1 => ?_) (fun hc1 => ?_)
    · have hc1' := hc1
      (try simp only [decide_eq_true_eq, decide_eq_false_iff_not, beq_iff_eq, bne_iff_ne, Bool.not_eq_true', Bool.not_eq_false', Bool.not_eq_true, Bool.not_eq_false, beq_eq_false_iff_ne, ne_eq, bne_eq_false_iff_eq, Bool.and_eq_true, Bool.or_eq_true, Bool.not_not, Bool.and_eq_false_iff, Bool.or_eq_false_iff, Int.not_lt, Int.not_le] at hc1')
      have hlt : i < l.length := by omega
      have hpb := pops_bd l[i].k
      refine CD.skip ?_
      refine CD.seq ?_
      refine CD.block ?_
      refine CD.seq ?_
      refine CD.region ?_
      refine OD.still (wants_plain rfl) rfl (still_r2 (mk := Op.indexAddr 48) rfl ot ot (by first | exact ix_list Tryd.runUnderlying48 Tryd.sizeOf52 rfl (by first | assumption | omega) | exact ix_list (j := Int.toNat _) Tryd.runUnderlying48 Tryd.sizeOf52 (Int.toNat_of_nonneg (by omega)).symm (by omega) | exact ix_row Tryd.runUnderlying48 Tryd.sizeOf52 rfl (by first | assumption | omega) | exact ix_row (j := Int.toNat _) Tryd.runUnderlying48 Tryd.sizeOf52 (Int.toNat_of_nonneg (by omega)).symm (by omega))) ?_
      refine OD.still (wants_plain rfl) rfl (still_r1 (mk := Op.load 52) rfl ot (by first | exact ld_fms cO_len Tryd.isAgg52 Tryd.sizeOf52 (by first | assumption | omega) | exact ld_is (ds := [_, _, _, _, _]) Tryd.isAgg52 Tryd.sizeOf52 rfl rfl)) ?_
      refine OD.alloc (ds := [_, _, _, _, _]) (wants_plain rfl) rfl rfl Tryd.zeroValue52 rfl (fun b5 => ?_)
      refine OD.store (k := 0) (cs' := [_, _, _, _, _]) (wants_plain rfl) rfl rfl ot rfl rfl ot rfl rfl Tryd.sizeOf52 rfl rfl rfl ?_
      refine OD.wk (Wk.as_ (n := 73) (l' := [(3, _), (5, _), (11, _), (12, _), (13, _)]) (S' := [⟨b5, 52, 5, [_, _, _, _, _]⟩]) rfl rfl ⟨lk, lk, lk, lk, lk, trivial⟩) ?_
      refine OD.nil ?_
      refine CD.seq ?_
      refine CD.seq ?_
      refine CD.region ?_
      refine OD.still (wants_plain rfl) rfl (still_r1 (mk := fun y => Op.fieldAddr 52 y 0) rfl ot (by first | exact fa_ptr (off := 0) Tryd.runUnderlying52 rfl Tryd.sizeOf3 rfl | exact fa_iptr (off := 0) Tryd.runUnderlying52 rfl Tryd.sizeOf3 rfl)) ?_
      refine OD.still (wants_plain rfl) rfl (still_r1 (mk := Op.load 3) rfl ot (by first | exact ld_blk (k := 0) rfl rfl Tryd.isAgg3 rfl | exact ld_fm cO_len Tryd.isAgg3 (by first | assumption | omega) rfl | exact ld_fm0 cO_len Tryd.isAgg3 (by first | assumption | omega) rfl | exact ld_row (k := 0) cO_len rfl rfl rfl Tryd.isAgg3 (by first | assumption | omega) rfl | exact ld_row0 (k := 0) cO_len rfl rfl rfl Tryd.isAgg3 (by first | assumption | omega) rfl | exact ld_i Tryd.isAgg3 rfl)) ?_
      refine OD.still (wants_plain rfl) rfl (still_bin rfl ot opd_const bin_lss) ?_
      refine OD.still (wants_plain rfl) rfl (still_mv rfl ot) ?_
      refine OD.split (t := 20) lk (fun hg20 => ?_) (fun hg20 => ?_)
      · have hg20' := hg20; (try simp only [decide_eq_true_eq, decide_eq_false_iff_not, beq_iff_eq, bne_iff_ne, Bool.not_eq_true', Bool.not_eq_false', Bool.not_eq_true, Bool.not_eq_false, beq_eq_false_iff_ne, ne_eq, bne_eq_false_iff_eq, Bool.and_eq_true, Bool.or_eq_true, Bool.not_not] at hg20')
        refine OD.skip (wants_F rfl rfl rfl lk (by first | rfl | assumption)) rfl ?_
        refine OD.skip (wants_F rfl rfl rfl lk (by first | rfl | assumption)) rfl ?_
        refine OD.skip (wants_F rfl rfl rfl lk (by first | rfl | assumption)) rfl ?_
        refine OD.still (wants_plain rfl) rfl (still_pickT rfl ot (by first | rfl | assumption) opd_const) ?_
        refine OD.wk (Wk.as_ (n := 73) (l' := [(3, _), (5, _), (11, _), (12, _), (13, _), (24, _)]) (S' := [⟨b5, 52, 5, [_, _, _, _, _]⟩]) rfl rfl ⟨lk, lk, lk, lk, lk, lk, trivial⟩) ?_
        refine OD.nil ?_
        refine CD.condT ot (by first | rfl | assumption) ?_
        have herr : opErr h l[i] = 2 := by unfold opErr; rw [if_pos (by omega)]
        refine CD.seq ?_
        refine CD.region ?_
        refine OD.still (wants_plain rfl) rfl (still_as rfl opd_const) ?_
        refine OD.wk (Wk.as_ (n := 73) (l' := [(2, _)]) (S' := [⟨b5, 52, 5, [_, _, _, _, _]⟩]) rfl rfl ⟨lk, trivial⟩) ?_
        refine OD.nil ?_
        refine CD.ret ?_
        refine ⟨.inr rfl, _, [], List.nil_sublist _, ret_one Tryd.results21 (res_tmp (Nat.le_of_ble_eq_true rfl) lk), ?_⟩
        refine ⟨vi ?_, rfl⟩
        first | exact hf.symm | (rw [hf, hx, exprL_no hlt herr (by first | assumption | decide)]; done) | (rw [hf, hend, if_pos (by simpa using hc8)]; done) | (rw [hf, hend, if_neg (by simpa using hc8)]; done)
      · have hg20' := hg20; (try simp only [decide_eq_true_eq, decide_eq_false_iff_not, beq_iff_eq, bne_iff_ne, Bool.not_eq_true', Bool.not_eq_false', Bool.not_eq_true, Bool.not_eq_false, beq_eq_false_iff_ne, ne_eq, bne_eq_false_iff_eq, Bool.and_eq_true, Bool.or_eq_true, Bool.not_not] at hg20')
        refine OD.still (wants_T rfl rfl rfl lk (by first | rfl | assumption)) rfl (still_r1 (mk := fun y => Op.fieldAddr 52 y 0) rfl ot (by first | exact fa_ptr (off := 0) Tryd.runUnderlying52 rfl Tryd.sizeOf3 rfl | exact fa_iptr (off := 0) Tryd.runUnderlying52 rfl Tryd.sizeOf3 rfl)) ?_
        refine OD.still (wants_T rfl rfl rfl lk (by first | rfl | assumption)) rfl (still_r1 (mk := Op.load 3) rfl ot (by first | exact ld_blk (k := 0) rfl rfl Tryd.isAgg3 rfl | exact ld_fm cO_len Tryd.isAgg3 (by first | assumption | omega) rfl | exact ld_fm0 cO_len Tryd.isAgg3 (by first | assumption | omega) rfl | exact ld_row (k := 0) cO_len rfl rfl rfl Tryd.isAgg3 (by first | assumption | omega) rfl | exact ld_row0 (k := 0) cO_len rfl rfl rfl Tryd.isAgg3 (by first | assumption | omega) rfl | exact ld_i Tryd.isAgg3 rfl)) ?_
        refine OD.still (wants_T rfl rfl rfl lk (by first | rfl | assumption)) rfl (still_bin rfl ot opd_const bin_gtr) ?_
        refine OD.still (wants_plain rfl) rfl (still_pickF rfl ot (by first | rfl | assumption) ot) ?_
        refine OD.wk (Wk.as_ (n := 73) (l' := [(3, _), (5, _), (11, _), (12, _), (13, _), (24, _)]) (S' := [⟨b5, 52, 5, [_, _, _, _, _]⟩]) rfl rfl ⟨lk, lk, lk, lk, lk, lk, trivial⟩) ?_
        refine OD.nil ?_
        refine CD.cond ot (fun hc2 => ?_) (fun hc2 => ?_)
        · have hc2' := hc2
          (try simp only [decide_eq_true_eq, decide_eq_false_iff_not, beq_iff_eq, bne_iff_ne, Bool.not_eq_true', Bool.not_eq_false', Bool.not_eq_true, Bool.not_eq_false, beq_eq_false_iff_ne, ne_eq, bne_eq_false_iff_eq, Bool.and_eq_true, Bool.or_eq_true, Bool.not_not, Bool.and_eq_false_iff, Bool.or_eq_false_iff, Int.not_lt, Int.not_le] at hc2')
          have herr : opErr h l[i] = 2 := by unfold opErr; rw [if_pos (by omega)]
          refine CD.seq ?_
          refine CD.region ?_
          refine OD.still (wants_plain rfl) rfl (still_as rfl opd_const) ?_
          refine OD.wk (Wk.as_ (n := 73) (l' := [(2, _)]) (S' := [⟨b5, 52, 5, [_, _, _, _, _]⟩]) rfl rfl ⟨lk, trivial⟩) ?_
          refine OD.nil ?_
          refine CD.ret ?_
          refine ⟨.inr rfl, _, [], List.nil_sublist _, ret_one Tryd.results21 (res_tmp (Nat.le_of_ble_eq_true rfl) lk), ?_⟩
          refine ⟨vi ?_, rfl⟩
          first | exact hf.symm | (rw [hf, hx, exprL_no hlt herr (by first | assumption | decide)]; done) | (rw [hf, hend, if_pos (by simpa using hc8)]; done) | (rw [hf, hend, if_neg (by simpa using hc8)]; done)
        · have hc2' := hc2
          (try simp only [decide_eq_true_eq, decide_eq_false_iff_not, beq_iff_eq, bne_iff_ne, Bool.not_eq_true', Bool.not_eq_false', Bool.not_eq_true, Bool.not_eq_false, beq_eq_false_iff_ne, ne_eq, bne_eq_false_iff_eq, Bool.and_eq_true, Bool.or_eq_true, Bool.not_not, Bool.and_eq_false_iff, Bool.or_eq_false_iff, Int.not_lt, Int.not_le] at hc2')
          have hk1 : ¬ (l[i].k < 1 ∨ l[i].k > 11) := by omega
          refine CD.skip ?_
          refine CD.seq ?_
          refine CD.seq ?_
          refine CD.region ?_
          refine OD.still (wants_plain rfl) rfl (still_r1 (mk := fun y => Op.fieldAddr 52 y 1) rfl ot (by first | exact fa_ptr (off := 1) Tryd.runUnderlying52 rfl Tryd.sizeOf30 rfl | exact fa_iptr (off := 1) Tryd.runUnderlying52 rfl Tryd.sizeOf30 rfl)) ?_
          refine OD.still (wants_plain rfl) rfl (still_r1 (mk := Op.load 30) rfl ot (by first | exact ld_blks (k := 0) (ds := [_, _, _]) rfl rfl Tryd.isAgg30 Tryd.sizeOf30 rfl rfl | exact ld_fms cO_len Tryd.isAgg30 Tryd.sizeOf30 (by first | assumption | omega) | exact ld_rows (k := 0) cO_len rfl rfl rfl Tryd.isAgg30 Tryd.sizeOf30 (by first | assumption | omega) | exact ld_is (ds := [_, _, _]) Tryd.isAgg30 Tryd.sizeOf30 rfl rfl)) ?_
          refine OD.callP (wants_plain rfl) rfl rfl rfl Tryd.call37 (literal_vp l[i].v) ⟨ot, trivial⟩ ?_
          refine OD.still (wants_plain rfl) rfl (still_as rfl ot) ?_
          refine OD.wk (Wk.as_ (n := 73) (l' := [(3, _), (5, _), (6, _), (11, _), (12, _), (13, _)]) (S' := [⟨b5, 52, 5, [_, _, _, _, _]⟩]) rfl rfl ⟨lk, lk, lk, lk, lk, lk, trivial⟩) ?_
          refine OD.nil ?_
          refine CD.seq ?_
          refine CD.region ?_
          refine OD.still (wants_plain rfl) rfl (still_mv rfl ot) ?_
          refine OD.still (wants_plain rfl) rfl (still_bin rfl ot opd_const bin_neq) ?_
          refine OD.wk (Wk.as_ (n := 73) (l' := [(3, _), (5, _), (6, _), (11, _), (12, _), (13, _), (29, _)]) (S' := [⟨b5, 52, 5, [_, _, _, _, _]⟩]) rfl rfl ⟨lk, lk, lk, lk, lk, lk, lk, trivial⟩) ?_
          refine OD.nil ?_
          refine CD.cond ot (fun hc3 => ?_) (fun hc3 => ?_)
          · have hc3' := hc3
            (try simp only [decide_eq_true_eq, decide_eq_false_iff_not, beq_iff_eq, bne_iff_ne, Bool.not_eq_true', Bool.not_eq_false', Bool.not_eq_true, Bool.not_eq_false, beq_eq_false_iff_ne, ne_eq, bne_eq_false_iff_eq, Bool.and_eq_true, Bool.or_eq_true, Bool.not_not, Bool.and_eq_false_iff, Bool.or_eq_false_iff, Int.not_lt, Int.not_le] at hc3')
            have hlit : litF l[i].v ≠ 0 := by simpa using hc3
            have herr : opErr h l[i] = litF l[i].v := by unfold opErr; rw [if_neg hk1, if_pos hlit]
            refine CD.seq ?_
            refine CD.region ?_
            refine OD.still (wants_plain rfl) rfl (still_mv rfl ot) ?_
            refine OD.still (wants_plain rfl) rfl (still_as rfl ot) ?_
            refine OD.wk (Wk.as_ (n := 73) (l' := [(2, _)]) (S' := [⟨b5, 52, 5, [_, _, _, _, _]⟩]) rfl rfl ⟨lk, trivial⟩) ?_
            refine OD.nil ?_
            refine CD.ret ?_
            refine ⟨.inr rfl, _, [], List.nil_sublist _, ret_one Tryd.results21 (res_tmp (Nat.le_of_ble_eq_true rfl) lk), ?_⟩
            refine ⟨vi ?_, rfl⟩
            first | exact hf.symm | (rw [hf, hx, exprL_no hlt herr (by first | assumption | decide)]; done) | (rw [hf, hend, if_pos (by simpa using hc8)]; done) | (rw [hf, hend, if_neg (by simpa using hc8)]; done)
          · have hc3' := hc3
            (try simp only [decide_eq_true_eq, decide_eq_false_iff_not, beq_iff_eq, bne_iff_ne, Bool.not_eq_true', Bool.not_eq_false', Bool.not_eq_true, Bool.not_eq_false, beq_eq_false_iff_ne, ne_eq, bne_eq_false_iff_eq, Bool.and_eq_true, Bool.or_eq_true, Bool.not_not, Bool.and_eq_false_iff, Bool.or_eq_false_iff, Int.not_lt, Int.not_le] at hc3')
            have hlit : litF l[i].v = 0 := by simpa using hc3
            refine CD.skip ?_
            refine CD.seq ?_
            refine CD.seq ?_
            refine CD.region ?_
            refine OD.still (wants_plain rfl) rfl (still_r1 (mk := fun y => Op.fieldAddr 52 y 0) rfl ot (by first | exact fa_ptr (off := 0) Tryd.runUnderlying52 rfl Tryd.sizeOf3 rfl | exact fa_iptr (off := 0) Tryd.runUnderlying52 rfl Tryd.sizeOf3 rfl)) ?_
            refine OD.still (wants_plain rfl) rfl (still_r1 (mk := Op.load 3) rfl ot (by first | exact ld_blk (k := 0) rfl rfl Tryd.isAgg3 rfl | exact ld_fm cO_len Tryd.isAgg3 (by first | assumption | omega) rfl | exact ld_fm0 cO_len Tryd.isAgg3 (by first | assumption | omega) rfl | exact ld_row (k := 0) cO_len rfl rfl rfl Tryd.isAgg3 (by first | assumption | omega) rfl | exact ld_row0 (k := 0) cO_len rfl rfl rfl Tryd.isAgg3 (by first | assumption | omega) rfl | exact ld_i Tryd.isAgg3 rfl)) ?_
            refine OD.still (wants_plain rfl) rfl (still_bin rfl ot opd_const bin_neq) ?_
            refine OD.still (wants_plain rfl) rfl (still_mv rfl ot) ?_
            refine OD.split (t := 34) lk (fun hg34 => ?_) (fun hg34 => ?_)
            · have hg34' := hg34; (try simp only [decide_eq_true_eq, decide_eq_false_iff_not, beq_iff_eq, bne_iff_ne, Bool.not_eq_true', Bool.not_eq_false', Bool.not_eq_true, Bool.not_eq_false, beq_eq_false_iff_ne, ne_eq, bne_eq_false_iff_eq, Bool.and_eq_true, Bool.or_eq_true, Bool.not_not] at hg34')
              refine OD.still (wants_T rfl rfl rfl lk (by first | rfl | assumption)) rfl (still_r1 (mk := fun y => Op.fieldAddr 52 y 1) rfl ot (by first | exact fa_ptr (off := 1) Tryd.runUnderlying52 rfl Tryd.sizeOf30 rfl | exact fa_iptr (off := 1) Tryd.runUnderlying52 rfl Tryd.sizeOf30 rfl)) ?_
              refine OD.still (wants_T rfl rfl rfl lk (by first | rfl | assumption)) rfl (still_r1 (mk := Op.load 30) rfl ot (by first | exact ld_blks (k := 0) (ds := [_, _, _]) rfl rfl Tryd.isAgg30 Tryd.sizeOf30 rfl rfl | exact ld_fms cO_len Tryd.isAgg30 Tryd.sizeOf30 (by first | assumption | omega) | exact ld_rows (k := 0) cO_len rfl rfl rfl Tryd.isAgg30 Tryd.sizeOf30 (by first | assumption | omega) | exact ld_is (ds := [_, _, _]) Tryd.isAgg30 Tryd.sizeOf30 rfl rfl)) ?_
              refine OD.still (wants_T rfl rfl rfl lk (by first | rfl | assumption)) rfl (still_bld (pl := []) (ds := [_, _, _]) rfl Tryd.zeroValue30 Tryd.runUnderlying30 places30_Nm3 trivial rfl rfl) ?_
              refine OD.still (wants_T rfl rfl rfl lk (by first | rfl | assumption)) rfl (still_neS (us := [_, _, _]) (us' := [_, _, _]) rfl ot ot Tryd.eqGuardType30 (eqs30 l[i].v ⟨0, 0, ⟨#[]⟩⟩)) ?_
              refine OD.still (wants_plain rfl) rfl (still_pickT rfl ot (by first | rfl | assumption) ot) ?_
              refine OD.still (wants_plain rfl) rfl (still_mv rfl ot) ?_
              refine OD.split (t := 40) lk (fun hg40 => ?_) (fun hg40 => ?_)
              · have hg40' := hg40; (try simp only [decide_eq_true_eq, decide_eq_false_iff_not, beq_iff_eq, bne_iff_ne, Bool.not_eq_true', Bool.not_eq_false', Bool.not_eq_true, Bool.not_eq_false, beq_eq_false_iff_ne, ne_eq, bne_eq_false_iff_eq, Bool.and_eq_true, Bool.or_eq_true, Bool.not_not] at hg40')
                refine OD.skip (wants_F rfl rfl rfl lk (by first | rfl | assumption)) rfl ?_
                refine OD.skip (wants_F rfl rfl rfl lk (by first | rfl | assumption)) rfl ?_
                refine OD.skip (wants_F rfl rfl rfl lk (by first | rfl | assumption)) rfl ?_
                refine OD.skip (wants_F rfl rfl rfl lk (by first | rfl | assumption)) rfl ?_
                refine OD.skip (wants_J (b := false) rfl rfl rfl lk) rfl ?_
                refine OD.skip (wants_J (b := false) rfl rfl rfl lk) rfl ?_
                refine OD.skip (wants_J (b := false) rfl rfl rfl lk) rfl ?_
                refine OD.skip (wants_F rfl rfl rfl lk (by first | rfl | assumption)) rfl ?_
                refine OD.still (wants_plain rfl) rfl (still_pickT rfl ot (by first | rfl | assumption) opd_const) ?_
                refine OD.wk (Wk.as_ (n := 73) (l' := [(3, _), (5, _), (11, _), (12, _), (13, _), (49, _)]) (S' := [⟨b5, 52, 5, [_, _, _, _, _]⟩]) rfl rfl ⟨lk, lk, lk, lk, lk, lk, trivial⟩) ?_
                refine OD.nil ?_
                refine CD.condT ot (by first | rfl | assumption) ?_
                have herr : opErr h l[i] = 6 := by unfold opErr zeroV; rw [if_neg hk1, if_neg (by rw [hlit]; simp), if_pos (by simp_all)]
                refine CD.seq ?_
                refine CD.region ?_
                refine OD.still (wants_plain rfl) rfl (still_as rfl opd_const) ?_
                refine OD.wk (Wk.as_ (n := 73) (l' := [(2, _)]) (S' := [⟨b5, 52, 5, [_, _, _, _, _]⟩]) rfl rfl ⟨lk, trivial⟩) ?_
                refine OD.nil ?_
                refine CD.ret ?_
                refine ⟨.inr rfl, _, [], List.nil_sublist _, ret_one Tryd.results21 (res_tmp (Nat.le_of_ble_eq_true rfl) lk), ?_⟩
                refine ⟨vi ?_, rfl⟩
                first | exact hf.symm | (rw [hf, hx, exprL_no hlt herr (by first | assumption | decide)]; done) | (rw [hf, hend, if_pos (by simpa using hc8)]; done) | (rw [hf, hend, if_neg (by simpa using hc8)]; done)
              · have hg40' := hg40; (try simp only [decide_eq_true_eq, decide_eq_false_iff_not, beq_iff_eq, bne_iff_ne, Bool.not_eq_true', Bool.not_eq_false', Bool.not_eq_true, Bool.not_eq_false, beq_eq_false_iff_ne, ne_eq, bne_eq_false_iff_eq, Bool.and_eq_true, Bool.or_eq_true, Bool.not_not] at hg40')
                refine OD.still (wants_T rfl rfl rfl lk (by first | rfl | assumption)) rfl (still_r1 (mk := fun y => Op.fieldAddr 52 y 0) rfl ot (by first | exact fa_ptr (off := 0) Tryd.runUnderlying52 rfl Tryd.sizeOf3 rfl | exact fa_iptr (off := 0) Tryd.runUnderlying52 rfl Tryd.sizeOf3 rfl)) ?_
                refine OD.still (wants_T rfl rfl rfl lk (by first | rfl | assumption)) rfl (still_r1 (mk := Op.load 3) rfl ot (by first | exact ld_blk (k := 0) rfl rfl Tryd.isAgg3 rfl | exact ld_fm cO_len Tryd.isAgg3 (by first | assumption | omega) rfl | exact ld_fm0 cO_len Tryd.isAgg3 (by first | assumption | omega) rfl | exact ld_row (k := 0) cO_len rfl rfl rfl Tryd.isAgg3 (by first | assumption | omega) rfl | exact ld_row0 (k := 0) cO_len rfl rfl rfl Tryd.isAgg3 (by first | assumption | omega) rfl | exact ld_i Tryd.isAgg3 rfl)) ?_
                refine OD.still (wants_T rfl rfl rfl lk (by first | rfl | assumption)) rfl (still_bin rfl ot opd_const bin_neq) ?_
                refine OD.still (wants_T rfl rfl rfl lk (by first | rfl | assumption)) rfl (still_mv rfl ot) ?_
                refine OD.split (t := 44) lk (fun hg44 => ?_) (fun hg44 => ?_)
                · have hg44' := hg44; (try simp only [decide_eq_true_eq, decide_eq_false_iff_not, beq_iff_eq, bne_iff_ne, Bool.not_eq_true', Bool.not_eq_false', Bool.not_eq_true, Bool.not_eq_false, beq_eq_false_iff_ne, ne_eq, bne_eq_false_iff_eq, Bool.and_eq_true, Bool.or_eq_true, Bool.not_not] at hg44')
                  refine OD.still (wants_T rfl rfl rfl lk (by first | rfl | assumption)) rfl (still_r1 (mk := fun y => Op.fieldAddr 52 y 2) rfl ot (by first | exact fa_ptr (off := 4) Tryd.runUnderlying52 rfl Tryd.sizeOf9 rfl | exact fa_iptr (off := 4) Tryd.runUnderlying52 rfl Tryd.sizeOf9 rfl)) ?_
                  refine OD.still (wants_T rfl rfl rfl lk (by first | rfl | assumption)) rfl (still_r1 (mk := Op.load 9) rfl ot (by first | exact ld_blk (k := 0) rfl rfl Tryd.isAgg9 rfl | exact ld_fm cO_len Tryd.isAgg9 (by first | assumption | omega) rfl | exact ld_fm0 cO_len Tryd.isAgg9 (by first | assumption | omega) rfl | exact ld_row (k := 0) cO_len rfl rfl rfl Tryd.isAgg9 (by first | assumption | omega) rfl | exact ld_row0 (k := 0) cO_len rfl rfl rfl Tryd.isAgg9 (by first | assumption | omega) rfl | exact ld_i Tryd.isAgg9 rfl)) ?_
                  refine OD.still (wants_T rfl rfl rfl lk (by first | rfl | assumption)) rfl (still_bin rfl ot opd_const bin_sneq) ?_
                  refine OD.still (wants_T rfl rfl rfl lk (by first | rfl | assumption)) rfl (still_pickT rfl ot (by first | rfl | assumption) ot) ?_
                  refine OD.still (wants_plain rfl) rfl (still_pickF rfl ot (by first | rfl | assumption) ot) ?_
                  refine OD.wk (Wk.as_ (n := 73) (l' := [(3, _), (5, _), (11, _), (12, _), (13, _), (49, _)]) (S' := [⟨b5, 52, 5, [_, _, _, _, _]⟩]) rfl rfl ⟨lk, lk, lk, lk, lk, lk, trivial⟩) ?_
                  refine OD.nil ?_
                  refine CD.cond ot (fun hc4 => ?_) (fun hc4 => ?_)
                  · have hc4' := hc4
                    (try simp only [decide_eq_true_eq, decide_eq_false_iff_not, beq_iff_eq, bne_iff_ne, Bool.not_eq_true', Bool.not_eq_false', Bool.not_eq_true, Bool.not_eq_false, beq_eq_false_iff_ne, ne_eq, bne_eq_false_iff_eq, Bool.and_eq_true, Bool.or_eq_true, Bool.not_not, Bool.and_eq_false_iff, Bool.or_eq_false_iff, Int.not_lt, Int.not_le] at hc4')
                    have herr : opErr h l[i] = 6 := by unfold opErr zeroV; rw [if_neg hk1, if_neg (by rw [hlit]; simp), if_pos (by simp_all)]
                    refine CD.seq ?_
                    refine CD.region ?_
                    refine OD.still (wants_plain rfl) rfl (still_as rfl opd_const) ?_
                    refine OD.wk (Wk.as_ (n := 73) (l' := [(2, _)]) (S' := [⟨b5, 52, 5, [_, _, _, _, _]⟩]) rfl rfl ⟨lk, trivial⟩) ?_
                    refine OD.nil ?_
                    refine CD.ret ?_
                    refine ⟨.inr rfl, _, [], List.nil_sublist _, ret_one Tryd.results21 (res_tmp (Nat.le_of_ble_eq_true rfl) lk), ?_⟩
                    refine ⟨vi ?_, rfl⟩
                    first | exact hf.symm | (rw [hf, hx, exprL_no hlt herr (by first | assumption | decide)]; done) | (rw [hf, hend, if_pos (by simpa using hc8)]; done) | (rw [hf, hend, if_neg (by simpa using hc8)]; done)
                  · have hc4' := hc4
                    (try simp only [decide_eq_true_eq, decide_eq_false_iff_not, beq_iff_eq, bne_iff_ne, Bool.not_eq_true', Bool.not_eq_false', Bool.not_eq_true, Bool.not_eq_false, beq_eq_false_iff_ne, ne_eq, bne_eq_false_iff_eq, Bool.and_eq_true, Bool.or_eq_true, Bool.not_not, Bool.and_eq_false_iff, Bool.or_eq_false_iff, Int.not_lt, Int.not_le] at hc4')
                    have hform : ¬ ((l[i].k != 1 && !(zeroV l[i].v)) || (l[i].k != 2 && !(l[i].nm.toList == (⟨#[]⟩ : ByteArray).toList))) = true := by unfold zeroV; simp_all
                    refine CD.skip ?_
                    refine CD.seq ?_
                    refine CD.seq ?_
                    refine CD.region ?_
                    refine OD.still (wants_plain rfl) rfl (still_r1 (mk := fun y => Op.fieldAddr 52 y 0) rfl ot (by first | exact fa_ptr (off := 0) Tryd.runUnderlying52 rfl Tryd.sizeOf3 rfl | exact fa_iptr (off := 0) Tryd.runUnderlying52 rfl Tryd.sizeOf3 rfl)) ?_
                    refine OD.still (wants_plain rfl) rfl (still_r1 (mk := Op.load 3) rfl ot (by first | exact ld_blk (k := 0) rfl rfl Tryd.isAgg3 rfl | exact ld_fm cO_len Tryd.isAgg3 (by first | assumption | omega) rfl | exact ld_fm0 cO_len Tryd.isAgg3 (by first | assumption | omega) rfl | exact ld_row (k := 0) cO_len rfl rfl rfl Tryd.isAgg3 (by first | assumption | omega) rfl | exact ld_row0 (k := 0) cO_len rfl rfl rfl Tryd.isAgg3 (by first | assumption | omega) rfl | exact ld_i Tryd.isAgg3 rfl)) ?_
                    refine OD.still (wants_plain rfl) rfl (still_bin rfl ot opd_const bin_eql) ?_
                    refine OD.wk (Wk.as_ (n := 73) (l' := [(3, _), (5, _), (11, _), (12, _), (13, _), (52, _)]) (S' := [⟨b5, 52, 5, [_, _, _, _, _]⟩]) rfl rfl ⟨lk, lk, lk, lk, lk, lk, trivial⟩) ?_
                    refine OD.nil ?_
                    refine CD.cond ot (fun hc5 => ?_) (fun hc5 => ?_)
                    · have hc5' := hc5
                      (try simp only [decide_eq_true_eq, decide_eq_false_iff_not, beq_iff_eq, bne_iff_ne, Bool.not_eq_true', Bool.not_eq_false', Bool.not_eq_true, Bool.not_eq_false, beq_eq_false_iff_ne, ne_eq, bne_eq_false_iff_eq, Bool.and_eq_true, Bool.or_eq_true, Bool.not_not, Bool.and_eq_false_iff, Bool.or_eq_false_iff, Int.not_lt, Int.not_le] at hc5')
                      refine CD.seq ?_
                      refine CD.region ?_
                      refine OD.still (wants_plain rfl) rfl (still_r1 (mk := fun y => Op.fieldAddr 52 y 2) rfl ot (by first | exact fa_ptr (off := 4) Tryd.runUnderlying52 rfl Tryd.sizeOf9 rfl | exact fa_iptr (off := 4) Tryd.runUnderlying52 rfl Tryd.sizeOf9 rfl)) ?_
                      refine OD.still (wants_plain rfl) rfl (still_r1 (mk := Op.load 9) rfl ot (by first | exact ld_blk (k := 0) rfl rfl Tryd.isAgg9 rfl | exact ld_fm cO_len Tryd.isAgg9 (by first | assumption | omega) rfl | exact ld_fm0 cO_len Tryd.isAgg9 (by first | assumption | omega) rfl | exact ld_row (k := 0) cO_len rfl rfl rfl Tryd.isAgg9 (by first | assumption | omega) rfl | exact ld_row0 (k := 0) cO_len rfl rfl rfl Tryd.isAgg9 (by first | assumption | omega) rfl | exact ld_i Tryd.isAgg9 rfl)) ?_
                      refine OD.callP (wants_plain rfl) rfl rfl rfl Tryd.call19 (name_vp hm hw l[i].nm (hs _ (List.getElem_mem hlt))) ⟨ot, trivial⟩ ?_
                      refine OD.still (wants_plain rfl) rfl (still_as rfl ot) ?_
                      refine OD.wk (Wk.as_ (n := 73) (l' := [(3, _), (5, _), (7, _), (11, _), (12, _), (13, _)]) (S' := [⟨b5, 52, 5, [_, _, _, _, _]⟩]) rfl rfl ⟨lk, lk, lk, lk, lk, lk, trivial⟩) ?_
                      refine OD.nil ?_
                      refine CD.seq ?_
                      refine CD.region ?_
                      refine OD.still (wants_plain rfl) rfl (still_mv rfl ot) ?_
                      refine OD.still (wants_plain rfl) rfl (still_bin rfl ot opd_const bin_neq) ?_
                      refine OD.wk (Wk.as_ (n := 73) (l' := [(3, _), (5, _), (7, _), (11, _), (12, _), (13, _), (57, _)]) (S' := [⟨b5, 52, 5, [_, _, _, _, _]⟩]) rfl rfl ⟨lk, lk, lk, lk, lk, lk, lk, trivial⟩) ?_
                      refine OD.nil ?_
                      refine CD.cond ot (fun hc6 => ?_) (fun hc6 => ?_)
                      · have hc6' := hc6
                        (try simp only [decide_eq_true_eq, decide_eq_false_iff_not, beq_iff_eq, bne_iff_ne, Bool.not_eq_true', Bool.not_eq_false', Bool.not_eq_true, Bool.not_eq_false, beq_eq_false_iff_ne, ne_eq, bne_eq_false_iff_eq, Bool.and_eq_true, Bool.or_eq_true, Bool.not_not, Bool.and_eq_false_iff, Bool.or_eq_false_iff, Int.not_lt, Int.not_le] at hc6')
                        have hnm : nameF l[i].nm ≠ 0 := by simpa using hc6
                        have herr : opErr h l[i] = nameF l[i].nm := by unfold opErr; rw [if_neg hk1, if_neg (by rw [hlit]; simp), if_neg hform, if_pos ⟨by simpa using hc5, hnm⟩]
                        refine CD.seq ?_
                        refine CD.region ?_
                        refine OD.still (wants_plain rfl) rfl (still_mv rfl ot) ?_
                        refine OD.still (wants_plain rfl) rfl (still_as rfl ot) ?_
                        refine OD.wk (Wk.as_ (n := 73) (l' := [(2, _)]) (S' := [⟨b5, 52, 5, [_, _, _, _, _]⟩]) rfl rfl ⟨lk, trivial⟩) ?_
                        refine OD.nil ?_
                        refine CD.ret ?_
                        refine ⟨.inr rfl, _, [], List.nil_sublist _, ret_one Tryd.results21 (res_tmp (Nat.le_of_ble_eq_true rfl) lk), ?_⟩
                        refine ⟨vi ?_, rfl⟩
                        first | exact hf.symm | (rw [hf, hx, exprL_no hlt herr (by first | assumption | decide)]; done) | (rw [hf, hend, if_pos (by simpa using hc8)]; done) | (rw [hf, hend, if_neg (by simpa using hc8)]; done)
                      · have hc6' := hc6
                        (try simp only [decide_eq_true_eq, decide_eq_false_iff_not, beq_iff_eq, bne_iff_ne, Bool.not_eq_true', Bool.not_eq_false', Bool.not_eq_true, Bool.not_eq_false, beq_eq_false_iff_ne, ne_eq, bne_eq_false_iff_eq, Bool.and_eq_true, Bool.or_eq_true, Bool.not_not, Bool.and_eq_false_iff, Bool.or_eq_false_iff, Int.not_lt, Int.not_le] at hc6')
                        have hnn : ¬ (l[i].k = 2 ∧ nameF l[i].nm ≠ 0) := by simp at hc6; simp [hc6]
                        refine CD.skip ?_
                        refine CD.seq ?_
                        refine CD.seq ?_
                        refine CD.region ?_
                        refine OD.still (wants_plain rfl) rfl (still_mv rfl ot) ?_
                        refine OD.still (wants_plain rfl) rfl (still_r1 (mk := fun y => Op.fieldAddr 52 y 0) rfl ot (by first | exact fa_ptr (off := 0) Tryd.runUnderlying52 rfl Tryd.sizeOf3 rfl | exact fa_iptr (off := 0) Tryd.runUnderlying52 rfl Tryd.sizeOf3 rfl)) ?_
                        refine OD.still (wants_plain rfl) rfl (still_r1 (mk := Op.load 3) rfl ot (by first | exact ld_blk (k := 0) rfl rfl Tryd.isAgg3 rfl | exact ld_fm cO_len Tryd.isAgg3 (by first | assumption | omega) rfl | exact ld_fm0 cO_len Tryd.isAgg3 (by first | assumption | omega) rfl | exact ld_row (k := 0) cO_len rfl rfl rfl Tryd.isAgg3 (by first | assumption | omega) rfl | exact ld_row0 (k := 0) cO_len rfl rfl rfl Tryd.isAgg3 (by first | assumption | omega) rfl | exact ld_i Tryd.isAgg3 rfl)) ?_
                        refine OD.callP (wants_plain rfl) rfl rfl rfl Tryd.call38 (pops_vp l[i].k) ⟨ot, trivial⟩ ?_
                        refine OD.still (wants_plain rfl) rfl (still_bin rfl ot ot bin_lss) ?_
                        refine OD.wk (Wk.as_ (n := 73) (l' := [(3, _), (5, _), (11, _), (12, _), (13, _), (63, _)]) (S' := [⟨b5, 52, 5, [_, _, _, _, _]⟩]) rfl rfl ⟨lk, lk, lk, lk, lk, lk, trivial⟩) ?_
                        refine OD.nil ?_
                        refine CD.cond ot (fun hc7 => ?_) (fun hc7 => ?_)
                        · have hc7' := hc7
                          (try simp only [decide_eq_true_eq, decide_eq_false_iff_not, beq_iff_eq, bne_iff_ne, Bool.not_eq_true', Bool.not_eq_false', Bool.not_eq_true, Bool.not_eq_false, beq_eq_false_iff_ne, ne_eq, bne_eq_false_iff_eq, Bool.and_eq_true, Bool.or_eq_true, Bool.not_not, Bool.and_eq_false_iff, Bool.or_eq_false_iff, Int.not_lt, Int.not_le] at hc7')
                          have hsh : h < popsF l[i].k := by simpa using hc7
                          have herr : opErr h l[i] = 7 := by unfold opErr; rw [if_neg hk1, if_neg (by rw [hlit]; simp), if_neg hform, if_neg hnn, if_pos hsh]
                          refine CD.seq ?_
                          refine CD.region ?_
                          refine OD.still (wants_plain rfl) rfl (still_as rfl opd_const) ?_
                          refine OD.wk (Wk.as_ (n := 73) (l' := [(2, _)]) (S' := [⟨b5, 52, 5, [_, _, _, _, _]⟩]) rfl rfl ⟨lk, trivial⟩) ?_
                          refine OD.nil ?_
                          refine CD.ret ?_
                          refine ⟨.inr rfl, _, [], List.nil_sublist _, ret_one Tryd.results21 (res_tmp (Nat.le_of_ble_eq_true rfl) lk), ?_⟩
                          refine ⟨vi ?_, rfl⟩
                          first | exact hf.symm | (rw [hf, hx, exprL_no hlt herr (by first | assumption | decide)]; done) | (rw [hf, hend, if_pos (by simpa using hc8)]; done) | (rw [hf, hend, if_neg (by simpa using hc8)]; done)
                        · have hc7' := hc7
                          (try simp only [decide_eq_true_eq, decide_eq_false_iff_not, beq_iff_eq, bne_iff_ne, Bool.not_eq_true', Bool.not_eq_false', Bool.not_eq_true, Bool.not_eq_false, beq_eq_false_iff_ne, ne_eq, bne_eq_false_iff_eq, Bool.and_eq_true, Bool.or_eq_true, Bool.not_not, Bool.and_eq_false_iff, Bool.or_eq_false_iff, Int.not_lt, Int.not_le] at hc7')
                          have hsh : ¬ h < popsF l[i].k := by simpa using hc7
                          have hok : opErr h l[i] = 0 := by unfold opErr; rw [if_neg hk1, if_neg (by rw [hlit]; simp), if_neg hform, if_neg hnn, if_neg hsh]
                          refine CD.skip ?_
                          refine CD.region ?_
                          refine OD.still (wants_plain rfl) rfl (still_mv rfl ot) ?_
                          refine OD.still (wants_plain rfl) rfl (still_r1 (mk := fun y => Op.fieldAddr 52 y 0) rfl ot (by first | exact fa_ptr (off := 0) Tryd.runUnderlying52 rfl Tryd.sizeOf3 rfl | exact fa_iptr (off := 0) Tryd.runUnderlying52 rfl Tryd.sizeOf3 rfl)) ?_
                          refine OD.still (wants_plain rfl) rfl (still_r1 (mk := Op.load 3) rfl ot (by first | exact ld_blk (k := 0) rfl rfl Tryd.isAgg3 rfl | exact ld_fm cO_len Tryd.isAgg3 (by first | assumption | omega) rfl | exact ld_fm0 cO_len Tryd.isAgg3 (by first | assumption | omega) rfl | exact ld_row (k := 0) cO_len rfl rfl rfl Tryd.isAgg3 (by first | assumption | omega) rfl | exact ld_row0 (k := 0) cO_len rfl rfl rfl Tryd.isAgg3 (by first | assumption | omega) rfl | exact ld_i Tryd.isAgg3 rfl)) ?_
                          refine OD.callP (wants_plain rfl) rfl rfl rfl Tryd.call38 (pops_vp l[i].k) ⟨ot, trivial⟩ ?_
                          refine OD.still (wants_plain rfl) rfl (still_bin rfl opd_const ot (bin_sub (wrap_i64 (by omega) (by omega)))) ?_
                          refine OD.still (wants_plain rfl) rfl (still_bin rfl ot ot (bin_add (wrap_i64 (by omega) (by omega)))) ?_
                          refine OD.still (wants_plain rfl) rfl (still_as rfl ot) ?_
                          refine OD.wk (Wk.as_ (n := 73) (l' := [(3, _), (11, _), (12, _), (13, _)]) (S' := [⟨b5, 52, 5, [_, _, _, _, _]⟩]) rfl rfl ⟨lk, lk, lk, lk, trivial⟩) ?_
                          refine OD.nil ?_
                          refine CD.region ?_
                          refine OD.still (wants_plain rfl) rfl (still_bin rfl ot opd_const (bin_add (wrap_i64 (by omega) (by omega)))) ?_
                          refine OD.still (wants_plain rfl) rfl (still_mv rfl ot) ?_
                          refine OD.wk (Wk.as_ (n := 73) (l' := [(3, _), (11, _), (12, _), (13, _)]) (S' := [⟨b5, 52, 5, [_, _, _, _, _]⟩]) rfl rfl ⟨lk, lk, lk, lk, trivial⟩) ?_
                          refine OD.nil ?_
                          refine ⟨((i + 1), (h + (1 - popsF l[i].k))), ⟨73, [(3, .v (.int .i64 ((h + (1 - popsF l[i].k))))), (11, .list 5 (l.flatMap cO) l.length), (12, .v (.int .i64 l.length)), (13, .v (.int .i64 (((i + 1)) : Nat)))], []⟩, ?_, Wk.asS (n := 73) rfl (by repeat (first | exact List.Sublist.refl _ | apply List.Sublist.cons)) ⟨(by (repeat (first | exact look_hit | (apply look_at; focus (first | rfl | (simp; done) | (congr 2; omega))) | (apply look_miss; focus rfl))); done), (by (repeat (first | exact look_hit | (apply look_at; focus (first | rfl | (simp; done) | (congr 2; omega))) | (apply look_miss; focus rfl))); done), (by (repeat (first | exact look_hit | (apply look_at; focus (first | rfl | (simp; done) | (congr 2; omega))) | (apply look_miss; focus rfl))); done), (by (repeat (first | exact look_hit | (apply look_at; focus (first | rfl | (simp; done) | (congr 2; omega))) | (apply look_miss; focus rfl))); done), trivial⟩, (by omega), (by rw [hx]; exact exprL_ok hlt hok), (by omega), (by have := pops_bd l[i].k; omega), rfl⟩
                          first | omega | (simp only []; omega)
                    · have hc5' := hc5
                      (try simp only [decide_eq_true_eq, decide_eq_false_iff_not, beq_iff_eq, bne_iff_ne, Bool.not_eq_true', Bool.not_eq_false', Bool.not_eq_true, Bool.not_eq_false, beq_eq_false_iff_ne, ne_eq, bne_eq_false_iff_eq, Bool.and_eq_true, Bool.or_eq_true, Bool.not_not, Bool.and_eq_false_iff, Bool.or_eq_false_iff, Int.not_lt, Int.not_le] at hc5')
                      have hnn : ¬ (l[i].k = 2 ∧ nameF l[i].nm ≠ 0) := by simp at hc5; simp [hc5]
                      refine CD.skip ?_
                      refine CD.seq ?_
                      refine CD.seq ?_
                      refine CD.region ?_
                      refine OD.still (wants_plain rfl) rfl (still_mv rfl ot) ?_
                      refine OD.still (wants_plain rfl) rfl (still_r1 (mk := fun y => Op.fieldAddr 52 y 0) rfl ot (by first | exact fa_ptr (off := 0) Tryd.runUnderlying52 rfl Tryd.sizeOf3 rfl | exact fa_iptr (off := 0) Tryd.runUnderlying52 rfl Tryd.sizeOf3 rfl)) ?_
                      refine OD.still (wants_plain rfl) rfl (still_r1 (mk := Op.load 3) rfl ot (by first | exact ld_blk (k := 0) rfl rfl Tryd.isAgg3 rfl | exact ld_fm cO_len Tryd.isAgg3 (by first | assumption | omega) rfl | exact ld_fm0 cO_len Tryd.isAgg3 (by first | assumption | omega) rfl | exact ld_row (k := 0) cO_len rfl rfl rfl Tryd.isAgg3 (by first | assumption | omega) rfl | exact ld_row0 (k := 0) cO_len rfl rfl rfl Tryd.isAgg3 (by first | assumption | omega) rfl | exact ld_i Tryd.isAgg3 rfl)) ?_
                      refine OD.callP (wants_plain rfl) rfl rfl rfl Tryd.call38 (pops_vp l[i].k) ⟨ot, trivial⟩ ?_
                      refine OD.still (wants_plain rfl) rfl (still_bin rfl ot ot bin_lss) ?_
                      refine OD.wk (Wk.as_ (n := 73) (l' := [(3, _), (5, _), (11, _), (12, _), (13, _), (63, _)]) (S' := [⟨b5, 52, 5, [_, _, _, _, _]⟩]) rfl rfl ⟨lk, lk, lk, lk, lk, lk, trivial⟩) ?_
                      refine OD.nil ?_
                      refine CD.cond ot (fun hc7 => ?_) (fun hc7 => ?_)
                      · have hc7' := hc7
                        (try simp only [decide_eq_true_eq, decide_eq_false_iff_not, beq_iff_eq, bne_iff_ne, Bool.not_eq_true', Bool.not_eq_false', Bool.not_eq_true, Bool.not_eq_false, beq_eq_false_iff_ne, ne_eq, bne_eq_false_iff_eq, Bool.and_eq_true, Bool.or_eq_true, Bool.not_not, Bool.and_eq_false_iff, Bool.or_eq_false_iff, Int.not_lt, Int.not_le] at hc7')
                        have hsh : h < popsF l[i].k := by simpa using hc7
                        have herr : opErr h l[i] = 7 := by unfold opErr; rw [if_neg hk1, if_neg (by rw [hlit]; simp), if_neg hform, if_neg hnn, if_pos hsh]
                        refine CD.seq ?_
                        refine CD.region ?_
                        refine OD.still (wants_plain rfl) rfl (still_as rfl opd_const) ?_
                        refine OD.wk (Wk.as_ (n := 73) (l' := [(2, _)]) (S' := [⟨b5, 52, 5, [_, _, _, _, _]⟩]) rfl rfl ⟨lk, trivial⟩) ?_
                        refine OD.nil ?_
                        refine CD.ret ?_
                        refine ⟨.inr rfl, _, [], List.nil_sublist _, ret_one Tryd.results21 (res_tmp (Nat.le_of_ble_eq_true rfl) lk), ?_⟩
                        refine ⟨vi ?_, rfl⟩
                        first | exact hf.symm | (rw [hf, hx, exprL_no hlt herr (by first | assumption | decide)]; done) | (rw [hf, hend, if_pos (by simpa using hc8)]; done) | (rw [hf, hend, if_neg (by simpa using hc8)]; done)
                      · have hc7' := hc7
                        (try simp only [decide_eq_true_eq, decide_eq_false_iff_not, beq_iff_eq, bne_iff_ne, Bool.not_eq_true', Bool.not_eq_false', Bool.not_eq_true, Bool.not_eq_false, beq_eq_false_iff_ne, ne_eq, bne_eq_false_iff_eq, Bool.and_eq_true, Bool.or_eq_true, Bool.not_not, Bool.and_eq_false_iff, Bool.or_eq_false_iff, Int.not_lt, Int.not_le] at hc7')
                        have hsh : ¬ h < popsF l[i].k := by simpa using hc7
                        have hok : opErr h l[i] = 0 := by unfold opErr; rw [if_neg hk1, if_neg (by rw [hlit]; simp), if_neg hform, if_neg hnn, if_neg hsh]
                        refine CD.skip ?_
                        refine CD.region ?_
                        refine OD.still (wants_plain rfl) rfl (still_mv rfl ot) ?_
                        refine OD.still (wants_plain rfl) rfl (still_r1 (mk := fun y => Op.fieldAddr 52 y 0) rfl ot (by first | exact fa_ptr (off := 0) Tryd.runUnderlying52 rfl Tryd.sizeOf3 rfl | exact fa_iptr (off := 0) Tryd.runUnderlying52 rfl Tryd.sizeOf3 rfl)) ?_
                        refine OD.still (wants_plain rfl) rfl (still_r1 (mk := Op.load 3) rfl ot (by first | exact ld_blk (k := 0) rfl rfl Tryd.isAgg3 rfl | exact ld_fm cO_len Tryd.isAgg3 (by first | assumption | omega) rfl | exact ld_fm0 cO_len Tryd.isAgg3 (by first | assumption | omega) rfl | exact ld_row (k := 0) cO_len rfl rfl rfl Tryd.isAgg3 (by first | assumption | omega) rfl | exact ld_row0 (k := 0) cO_len rfl rfl rfl Tryd.isAgg3 (by first | assumption | omega) rfl | exact ld_i Tryd.isAgg3 rfl)) ?_
                        refine OD.callP (wants_plain rfl) rfl rfl rfl Tryd.call38 (pops_vp l[i].k) ⟨ot, trivial⟩ ?_
                        refine OD.still (wants_plain rfl) rfl (still_bin rfl opd_const ot (bin_sub (wrap_i64 (by omega) (by omega)))) ?_
                        refine OD.still (wants_plain rfl) rfl (still_bin rfl ot ot (bin_add (wrap_i64 (by omega) (by omega)))) ?_
                        refine OD.still (wants_plain rfl) rfl (still_as rfl ot) ?_
                        refine OD.wk (Wk.as_ (n := 73) (l' := [(3, _), (11, _), (12, _), (13, _)]) (S' := [⟨b5, 52, 5, [_, _, _, _, _]⟩]) rfl rfl ⟨lk, lk, lk, lk, trivial⟩) ?_
                        refine OD.nil ?_
                        refine CD.region ?_
                        refine OD.still (wants_plain rfl) rfl (still_bin rfl ot opd_const (bin_add (wrap_i64 (by omega) (by omega)))) ?_
                        refine OD.still (wants_plain rfl) rfl (still_mv rfl ot) ?_
                        refine OD.wk (Wk.as_ (n := 73) (l' := [(3, _), (11, _), (12, _), (13, _)]) (S' := [⟨b5, 52, 5, [_, _, _, _, _]⟩]) rfl rfl ⟨lk, lk, lk, lk, trivial⟩) ?_
                        refine OD.nil ?_
                        refine ⟨((i + 1), (h + (1 - popsF l[i].k))), ⟨73, [(3, .v (.int .i64 ((h + (1 - popsF l[i].k))))), (11, .list 5 (l.flatMap cO) l.length), (12, .v (.int .i64 l.length)), (13, .v (.int .i64 (((i + 1)) : Nat)))], []⟩, ?_, Wk.asS (n := 73) rfl (by repeat (first | exact List.Sublist.refl _ | apply List.Sublist.cons)) ⟨(by (repeat (first | exact look_hit | (apply look_at; focus (first | rfl | (simp; done) | (congr 2; omega))) | (apply look_miss; focus rfl))); done), (by (repeat (first | exact look_hit | (apply look_at; focus (first | rfl | (simp; done) | (congr 2; omega))) | (apply look_miss; focus rfl))); done), (by (repeat (first | exact look_hit | (apply look_at; focus (first | rfl | (simp; done) | (congr 2; omega))) | (apply look_miss; focus rfl))); done), (by (repeat (first | exact look_hit | (apply look_at; focus (first | rfl | (simp; done) | (congr 2; omega))) | (apply look_miss; focus rfl))); done), trivial⟩, (by omega), (by rw [hx]; exact exprL_ok hlt hok), (by omega), (by have := pops_bd l[i].k; omega), rfl⟩
                        first | omega | (simp only []; omega)
                · have hg44' := hg44; (try simp only [decide_eq_true_eq, decide_eq_false_iff_not, beq_iff_eq, bne_iff_ne, Bool.not_eq_true', Bool.not_eq_false', Bool.not_eq_true, Bool.not_eq_false, beq_eq_false_iff_ne, ne_eq, bne_eq_false_iff_eq, Bool.and_eq_true, Bool.or_eq_true, Bool.not_not] at hg44')
                  refine OD.skip (wants_F rfl rfl rfl lk (by first | rfl | assumption)) rfl ?_
                  refine OD.skip (wants_F rfl rfl rfl lk (by first | rfl | assumption)) rfl ?_
                  refine OD.skip (wants_F rfl rfl rfl lk (by first | rfl | assumption)) rfl ?_
                  refine OD.still (wants_T rfl rfl rfl lk (by first | rfl | assumption)) rfl (still_pickF rfl ot (by first | rfl | assumption) opd_const) ?_
                  refine OD.still (wants_plain rfl) rfl (still_pickF rfl ot (by first | rfl | assumption) ot) ?_
                  refine OD.wk (Wk.as_ (n := 73) (l' := [(3, _), (5, _), (11, _), (12, _), (13, _), (49, _)]) (S' := [⟨b5, 52, 5, [_, _, _, _, _]⟩]) rfl rfl ⟨lk, lk, lk, lk, lk, lk, trivial⟩) ?_
                  refine OD.nil ?_
                  refine CD.condF ot (by first | rfl | assumption) ?_
                  have hform : ¬ ((l[i].k != 1 && !(zeroV l[i].v)) || (l[i].k != 2 && !(l[i].nm.toList == (⟨#[]⟩ : ByteArray).toList))) = true := by unfold zeroV; simp_all
                  refine CD.skip ?_
                  refine CD.seq ?_
                  refine CD.seq ?_
                  refine CD.region ?_
                  refine OD.still (wants_plain rfl) rfl (still_r1 (mk := fun y => Op.fieldAddr 52 y 0) rfl ot (by first | exact fa_ptr (off := 0) Tryd.runUnderlying52 rfl Tryd.sizeOf3 rfl | exact fa_iptr (off := 0) Tryd.runUnderlying52 rfl Tryd.sizeOf3 rfl)) ?_
                  refine OD.still (wants_plain rfl) rfl (still_r1 (mk := Op.load 3) rfl ot (by first | exact ld_blk (k := 0) rfl rfl Tryd.isAgg3 rfl | exact ld_fm cO_len Tryd.isAgg3 (by first | assumption | omega) rfl | exact ld_fm0 cO_len Tryd.isAgg3 (by first | assumption | omega) rfl | exact ld_row (k := 0) cO_len rfl rfl rfl Tryd.isAgg3 (by first | assumption | omega) rfl | exact ld_row0 (k := 0) cO_len rfl rfl rfl Tryd.isAgg3 (by first | assumption | omega) rfl | exact ld_i Tryd.isAgg3 rfl)) ?_
                  refine OD.still (wants_plain rfl) rfl (still_bin rfl ot opd_const bin_eql) ?_
                  refine OD.wk (Wk.as_ (n := 73) (l' := [(3, _), (5, _), (11, _), (12, _), (13, _), (52, _)]) (S' := [⟨b5, 52, 5, [_, _, _, _, _]⟩]) rfl rfl ⟨lk, lk, lk, lk, lk, lk, trivial⟩) ?_
                  refine OD.nil ?_
                  refine CD.cond ot (fun hc5 => ?_) (fun hc5 => ?_)
                  · have hc5' := hc5
                    (try simp only [decide_eq_true_eq, decide_eq_false_iff_not, beq_iff_eq, bne_iff_ne, Bool.not_eq_true', Bool.not_eq_false', Bool.not_eq_true, Bool.not_eq_false, beq_eq_false_iff_ne, ne_eq, bne_eq_false_iff_eq, Bool.and_eq_true, Bool.or_eq_true, Bool.not_not, Bool.and_eq_false_iff, Bool.or_eq_false_iff, Int.not_lt, Int.not_le] at hc5')
                    refine CD.seq ?_
                    refine CD.region ?_
                    refine OD.still (wants_plain rfl) rfl (still_r1 (mk := fun y => Op.fieldAddr 52 y 2) rfl ot (by first | exact fa_ptr (off := 4) Tryd.runUnderlying52 rfl Tryd.sizeOf9 rfl | exact fa_iptr (off := 4) Tryd.runUnderlying52 rfl Tryd.sizeOf9 rfl)) ?_
                    refine OD.still (wants_plain rfl) rfl (still_r1 (mk := Op.load 9) rfl ot (by first | exact ld_blk (k := 0) rfl rfl Tryd.isAgg9 rfl | exact ld_fm cO_len Tryd.isAgg9 (by first | assumption | omega) rfl | exact ld_fm0 cO_len Tryd.isAgg9 (by first | assumption | omega) rfl | exact ld_row (k := 0) cO_len rfl rfl rfl Tryd.isAgg9 (by first | assumption | omega) rfl | exact ld_row0 (k := 0) cO_len rfl rfl rfl Tryd.isAgg9 (by first | assumption | omega) rfl | exact ld_i Tryd.isAgg9 rfl)) ?_
                    refine OD.callP (wants_plain rfl) rfl rfl rfl Tryd.call19 (name_vp hm hw l[i].nm (hs _ (List.getElem_mem hlt))) ⟨ot, trivial⟩ ?_
                    refine OD.still (wants_plain rfl) rfl (still_as rfl ot) ?_
                    refine OD.wk (Wk.as_ (n := 73) (l' := [(3, _), (5, _), (7, _), (11, _), (12, _), (13, _)]) (S' := [⟨b5, 52, 5, [_, _, _, _, _]⟩]) rfl rfl ⟨lk, lk, lk, lk, lk, lk, trivial⟩) ?_
                    refine OD.nil ?_
                    refine CD.seq ?_
                    refine CD.region ?_
                    refine OD.still (wants_plain rfl) rfl (still_mv rfl ot) ?_
                    refine OD.still (wants_plain rfl) rfl (still_bin rfl ot opd_const bin_neq) ?_
                    refine OD.wk (Wk.as_ (n := 73) (l' := [(3, _), (5, _), (7, _), (11, _), (12, _), (13, _), (57, _)]) (S' := [⟨b5, 52, 5, [_, _, _, _, _]⟩]) rfl rfl ⟨lk, lk, lk, lk, lk, lk, lk, trivial⟩) ?_
                    refine OD.nil ?_
                    refine CD.cond ot (fun hc6 => ?_) (fun hc6 => ?_)
                    · have hc6' := hc6
                      (try simp only [decide_eq_true_eq, decide_eq_false_iff_not, beq_iff_eq, bne_iff_ne, Bool.not_eq_true', Bool.not_eq_false', Bool.not_eq_true, Bool.not_eq_false, beq_eq_false_iff_ne, ne_eq, bne_eq_false_iff_eq, Bool.and_eq_true, Bool.or_eq_true, Bool.not_not, Bool.and_eq_false_iff, Bool.or_eq_false_iff, Int.not_lt, Int.not_le] at hc6')
                      have hnm : nameF l[i].nm ≠ 0 := by simpa using hc6
                      have herr : opErr h l[i] = nameF l[i].nm := by unfold opErr; rw [if_neg hk1, if_neg (by rw [hlit]; simp), if_neg hform, if_pos ⟨by simpa using hc5, hnm⟩]
                      refine CD.seq ?_
                      refine CD.region ?_
                      refine OD.still (wants_plain rfl) rfl (still_mv rfl ot) ?_
                      refine OD.still (wants_plain rfl) rfl (still_as rfl ot) ?_
                      refine OD.wk (Wk.as_ (n := 73) (l' := [(2, _)]) (S' := [⟨b5, 52, 5, [_, _, _, _, _]⟩]) rfl rfl ⟨lk, trivial⟩) ?_
                      refine OD.nil ?_
                      refine CD.ret ?_
                      refine ⟨.inr rfl, _, [], List.nil_sublist _, ret_one Tryd.results21 (res_tmp (Nat.le_of_ble_eq_true rfl) lk), ?_⟩
                      refine ⟨vi ?_, rfl⟩
                      first | exact hf.symm | (rw [hf, hx, exprL_no hlt herr (by first | assumption | decide)]; done) | (rw [hf, hend, if_pos (by simpa using hc8)]; done) | (rw [hf, hend, if_neg (by simpa using hc8)]; done)
                    · have hc6' := hc6
                      (try simp only [decide_eq_true_eq, decide_eq_false_iff_not, beq_iff_eq, bne_iff_ne, Bool.not_eq_true', Bool.not_eq_false', Bool.not_eq_true, Bool.not_eq_false, beq_eq_false_iff_ne, ne_eq, bne_eq_false_iff_eq, Bool.and_eq_true, Bool.or_eq_true, Bool.not_not, Bool.and_eq_false_iff, Bool.or_eq_false_iff, Int.not_lt, Int.not_le] at hc6')
                      have hnn : ¬ (l[i].k = 2 ∧ nameF l[i].nm ≠ 0) := by simp at hc6; simp [hc6]
                      refine CD.skip ?_
                      refine CD.seq ?_
                      refine CD.seq ?_
                      refine CD.region ?_
                      refine OD.still (wants_plain rfl) rfl (still_mv rfl ot) ?_
                      refine OD.still (wants_plain rfl) rfl (still_r1 (mk := fun y => Op.fieldAddr 52 y 0) rfl ot (by first | exact fa_ptr (off := 0) Tryd.runUnderlying52 rfl Tryd.sizeOf3 rfl | exact fa_iptr (off := 0) Tryd.runUnderlying52 rfl Tryd.sizeOf3 rfl)) ?_
                      refine OD.still (wants_plain rfl) rfl (still_r1 (mk := Op.load 3) rfl ot (by first | exact ld_blk (k := 0) rfl rfl Tryd.isAgg3 rfl | exact ld_fm cO_len Tryd.isAgg3 (by first | assumption | omega) rfl | exact ld_fm0 cO_len Tryd.isAgg3 (by first | assumption | omega) rfl | exact ld_row (k := 0) cO_len rfl rfl rfl Tryd.isAgg3 (by first | assumption | omega) rfl | exact ld_row0 (k := 0) cO_len rfl rfl rfl Tryd.isAgg3 (by first | assumption | omega) rfl | exact ld_i Tryd.isAgg3 rfl)) ?_
                      refine OD.callP (wants_plain rfl) rfl rfl rfl Tryd.call38 (pops_vp l[i].k) ⟨ot, trivial⟩ ?_
                      refine OD.still (wants_plain rfl) rfl (still_bin rfl ot ot bin_lss) ?_
                      refine OD.wk (Wk.as_ (n := 73) (l' := [(3, _), (5, _), (11, _), (12, _), (13, _), (63, _)]) (S' := [⟨b5, 52, 5, [_, _, _, _, _]⟩]) rfl rfl ⟨lk, lk, lk, lk, lk, lk, trivial⟩) ?_
                      refine OD.nil ?_
                      refine CD.cond ot (fun hc7 => ?_) (fun hc7 => ?_)
                      · have hc7' := hc7
                        (try simp only [decide_eq_true_eq, decide_eq_false_iff_not, beq_iff_eq, bne_iff_ne, Bool.not_eq_true', Bool.not_eq_false', Bool.not_eq_true, Bool.not_eq_false, beq_eq_false_iff_ne, ne_eq, bne_eq_false_iff_eq, Bool.and_eq_true, Bool.or_eq_true, Bool.not_not, Bool.and_eq_false_iff, Bool.or_eq_false_iff, Int.not_lt, Int.not_le] at hc7')
                        have hsh : h < popsF l[i].k := by simpa using hc7
                        have herr : opErr h l[i] = 7 := by unfold opErr; rw [if_neg hk1, if_neg (by rw [hlit]; simp), if_neg hform, if_neg hnn, if_pos hsh]
                        refine CD.seq ?_
                        refine CD.region ?_
                        refine OD.still (wants_plain rfl) rfl (still_as rfl opd_const) ?_
                        refine OD.wk (Wk.as_ (n := 73) (l' := [(2, _)]) (S' := [⟨b5, 52, 5, [_, _, _, _, _]⟩]) rfl rfl ⟨lk, trivial⟩) ?_
                        refine OD.nil ?_
                        refine CD.ret ?_
                        refine ⟨.inr rfl, _, [], List.nil_sublist _, ret_one Tryd.results21 (res_tmp (Nat.le_of_ble_eq_true rfl) lk), ?_⟩
                        refine ⟨vi ?_, rfl⟩
                        first | exact hf.symm | (rw [hf, hx, exprL_no hlt herr (by first | assumption | decide)]; done) | (rw [hf, hend, if_pos (by simpa using hc8)]; done) | (rw [hf, hend, if_neg (by simpa using hc8)]; done)
                      · have hc7' := hc7
                        (try simp only [decide_eq_true_eq, decide_eq_false_iff_not, beq_iff_eq, bne_iff_ne, Bool.not_eq_true', Bool.not_eq_false', Bool.not_eq_true, Bool.not_eq_false, beq_eq_false_iff_ne, ne_eq, bne_eq_false_iff_eq, Bool.and_eq_true, Bool.or_eq_true, Bool.not_not, Bool.and_eq_false_iff, Bool.or_eq_false_iff, Int.not_lt, Int.not_le] at hc7')
                        have hsh : ¬ h < popsF l[i].k := by simpa using hc7
                        have hok : opErr h l[i] = 0 := by unfold opErr; rw [if_neg hk1, if_neg (by rw [hlit]; simp), if_neg hform, if_neg hnn, if_neg hsh]
                        refine CD.skip ?_
                        refine CD.region ?_
                        refine OD.still (wants_plain rfl) rfl (still_mv rfl ot) ?_
                        refine OD.still (wants_plain rfl) rfl (still_r1 (mk := fun y => Op.fieldAddr 52 y 0) rfl ot (by first | exact fa_ptr (off := 0) Tryd.runUnderlying52 rfl Tryd.sizeOf3 rfl | exact fa_iptr (off := 0) Tryd.runUnderlying52 rfl Tryd.sizeOf3 rfl)) ?_
                        refine OD.still (wants_plain rfl) rfl (still_r1 (mk := Op.load 3) rfl ot (by first | exact ld_blk (k := 0) rfl rfl Tryd.isAgg3 rfl | exact ld_fm cO_len Tryd.isAgg3 (by first | assumption | omega) rfl | exact ld_fm0 cO_len Tryd.isAgg3 (by first | assumption | omega) rfl | exact ld_row (k := 0) cO_len rfl rfl rfl Tryd.isAgg3 (by first | assumption | omega) rfl | exact ld_row0 (k := 0) cO_len rfl rfl rfl Tryd.isAgg3 (by first | assumption | omega) rfl | exact ld_i Tryd.isAgg3 rfl)) ?_
                        refine OD.callP (wants_plain rfl) rfl rfl rfl Tryd.call38 (pops_vp l[i].k) ⟨ot, trivial⟩ ?_
                        refine OD.still (wants_plain rfl) rfl (still_bin rfl opd_const ot (bin_sub (wrap_i64 (by omega) (by omega)))) ?_
                        refine OD.still (wants_plain rfl) rfl (still_bin rfl ot ot (bin_add (wrap_i64 (by omega) (by omega)))) ?_
                        refine OD.still (wants_plain rfl) rfl (still_as rfl ot) ?_
                        refine OD.wk (Wk.as_ (n := 73) (l' := [(3, _), (11, _), (12, _), (13, _)]) (S' := [⟨b5, 52, 5, [_, _, _, _, _]⟩]) rfl rfl ⟨lk, lk, lk, lk, trivial⟩) ?_
                        refine OD.nil ?_
                        refine CD.region ?_
                        refine OD.still (wants_plain rfl) rfl (still_bin rfl ot opd_const (bin_add (wrap_i64 (by omega) (by omega)))) ?_
                        refine OD.still (wants_plain rfl) rfl (still_mv rfl ot) ?_
                        refine OD.wk (Wk.as_ (n := 73) (l' := [(3, _), (11, _), (12, _), (13, _)]) (S' := [⟨b5, 52, 5, [_, _, _, _, _]⟩]) rfl rfl ⟨lk, lk, lk, lk, trivial⟩) ?_
                        refine OD.nil ?_
                        refine ⟨((i + 1), (h + (1 - popsF l[i].k))), ⟨73, [(3, .v (.int .i64 ((h + (1 - popsF l[i].k))))), (11, .list 5 (l.flatMap cO) l.length), (12, .v (.int .i64 l.length)), (13, .v (.int .i64 (((i + 1)) : Nat)))], []⟩, ?_, Wk.asS (n := 73) rfl (by repeat (first | exact List.Sublist.refl _ | apply List.Sublist.cons)) ⟨(by (repeat (first | exact look_hit | (apply look_at; focus (first | rfl | (simp; done) | (congr 2; omega))) | (apply look_miss; focus rfl))); done), (by (repeat (first | exact look_hit | (apply look_at; focus (first | rfl | (simp; done) | (congr 2; omega))) | (apply look_miss; focus rfl))); done), (by (repeat (first | exact look_hit | (apply look_at; focus (first | rfl | (simp; done) | (congr 2; omega))) | (apply look_miss; focus rfl))); done), (by (repeat (first | exact look_hit | (apply look_at; focus (first | rfl | (simp; done) | (congr 2; omega))) | (apply look_miss; focus rfl))); done), trivial⟩, (by omega), (by rw [hx]; exact exprL_ok hlt hok), (by omega), (by have := pops_bd l[i].k; omega), rfl⟩
                        first | omega | (simp only []; omega)
                  · have hc5' := hc5
                    (try simp only [decide_eq_true_eq, decide_eq_false_iff_not, beq_iff_eq, bne_iff_ne, Bool.not_eq_true', Bool.not_eq_false', Bool.not_eq_true, Bool.not_eq_false, beq_eq_false_iff_ne, ne_eq, bne_eq_false_iff_eq, Bool.and_eq_true, Bool.or_eq_true, Bool.not_not, Bool.and_eq_false_iff, Bool.or_eq_false_iff, Int.not_lt, Int.not_le] at hc5')
                    have hnn : ¬ (l[i].k = 2 ∧ nameF l[i].nm ≠ 0) := by simp at hc5; simp [hc5]
                    refine CD.skip ?_
                    refine CD.seq ?_
                    refine CD.seq ?_
                    refine CD.region ?_
                    refine OD.still (wants_plain rfl) rfl (still_mv rfl ot) ?_
                    refine OD.still (wants_plain rfl) rfl (still_r1 (mk := fun y => Op.fieldAddr 52 y 0) rfl ot (by first | exact fa_ptr (off := 0) Tryd.runUnderlying52 rfl Tryd.sizeOf3 rfl | exact fa_iptr (off := 0) Tryd.runUnderlying52 rfl Tryd.sizeOf3 rfl)) ?_
                    refine OD.still (wants_plain rfl) rfl (still_r1 (mk := Op.load 3) rfl ot (by first | exact ld_blk (k := 0) rfl rfl Tryd.isAgg3 rfl | exact ld_fm cO_len Tryd.isAgg3 (by first | assumption | omega) rfl | exact ld_fm0 cO_len Tryd.isAgg3 (by first | assumption | omega) rfl | exact ld_row (k := 0) cO_len rfl rfl rfl Tryd.isAgg3 (by first | assumption | omega) rfl | exact ld_row0 (k := 0) cO_len rfl rfl rfl Tryd.isAgg3 (by first | assumption | omega) rfl | exact ld_i Tryd.isAgg3 rfl)) ?_
                    refine OD.callP (wants_plain rfl) rfl rfl rfl Tryd.call38 (pops_vp l[i].k) ⟨ot, trivial⟩ ?_
                    refine OD.still (wants_plain rfl) rfl (still_bin rfl ot ot bin_lss) ?_
                    refine OD.wk (Wk.as_ (n := 73) (l' := [(3, _), (5, _), (11, _), (12, _), (13, _), (63, _)]) (S' := [⟨b5, 52, 5, [_, _, _, _, _]⟩]) rfl rfl ⟨lk, lk, lk, lk, lk, lk, trivial⟩) ?_
                    refine OD.nil ?_
                    refine CD.cond ot (fun hc7 => ?_) (fun hc7 => ?_)
                    · have hc7' := hc7
                      (try simp only [decide_eq_true_eq, decide_eq_false_iff_not, beq_iff_eq, bne_iff_ne, Bool.not_eq_true', Bool.not_eq_false', Bool.not_eq_true, Bool.not_eq_false, beq_eq_false_iff_ne, ne_eq, bne_eq_false_iff_eq, Bool.and_eq_true, Bool.or_eq_true, Bool.not_not, Bool.and_eq_false_iff, Bool.or_eq_false_iff, Int.not_lt, Int.not_le] at hc7')
                      have hsh : h < popsF l[i].k := by simpa using hc7
                      have herr : opErr h l[i] = 7 := by unfold opErr; rw [if_neg hk1, if_neg (by rw [hlit]; simp), if_neg hform, if_neg hnn, if_pos hsh]
                      refine CD.seq ?_
                      refine CD.region ?_
                      refine OD.still (wants_plain rfl) rfl (still_as rfl opd_const) ?_
                      refine OD.wk (Wk.as_ (n := 73) (l' := [(2, _)]) (S' := [⟨b5, 52, 5, [_, _, _, _, _]⟩]) rfl rfl ⟨lk, trivial⟩) ?_
                      refine OD.nil ?_
                      refine CD.ret ?_
                      refine ⟨.inr rfl, _, [], List.nil_sublist _, ret_one Tryd.results21 (res_tmp (Nat.le_of_ble_eq_true rfl) lk), ?_⟩
                      refine ⟨vi ?_, rfl⟩
                      first | exact hf.symm | (rw [hf, hx, exprL_no hlt herr (by first | assumption | decide)]; done) | (rw [hf, hend, if_pos (by simpa using hc8)]; done) | (rw [hf, hend, if_neg (by simpa using hc8)]; done)
                    · have hc7' := hc7
                      (try simp only [decide_eq_true_eq, decide_eq_false_iff_not, beq_iff_eq, bne_iff_ne, Bool.not_eq_true', Bool.not_eq_false', Bool.not_eq_true, Bool.not_eq_false, beq_eq_false_iff_ne, ne_eq, bne_eq_false_iff_eq, Bool.and_eq_true, Bool.or_eq_true, Bool.not_not, Bool.and_eq_false_iff, Bool.or_eq_false_iff, Int.not_lt, Int.not_le] at hc7')
                      have hsh : ¬ h < popsF l[i].k := by simpa using hc7
                      have hok : opErr h l[i] = 0 := by unfold opErr; rw [if_neg hk1, if_neg (by rw [hlit]; simp), if_neg hform, if_neg hnn, if_neg hsh]
                      refine CD.skip ?_
                      refine CD.region ?_
                      refine OD.still (wants_plain rfl) rfl (still_mv rfl ot) ?_
                      refine OD.still (wants_plain rfl) rfl (still_r1 (mk := fun y => Op.fieldAddr 52 y 0) rfl ot (by first | exact fa_ptr (off := 0) Tryd.runUnderlying52 rfl Tryd.sizeOf3 rfl | exact fa_iptr (off := 0) Tryd.runUnderlying52 rfl Tryd.sizeOf3 rfl)) ?_
                      refine OD.still (wants_plain rfl) rfl (still_r1 (mk := Op.load 3) rfl ot (by first | exact ld_blk (k := 0) rfl rfl Tryd.isAgg3 rfl | exact ld_fm cO_len Tryd.isAgg3 (by first | assumption | omega) rfl | exact ld_fm0 cO_len Tryd.isAgg3 (by first | assumption | omega) rfl | exact ld_row (k := 0) cO_len rfl rfl rfl Tryd.isAgg3 (by first | assumption | omega) rfl | exact ld_row0 (k := 0) cO_len rfl rfl rfl Tryd.isAgg3 (by first | assumption | omega) rfl | exact ld_i Tryd.isAgg3 rfl)) ?_
                      refine OD.callP (wants_plain rfl) rfl rfl rfl Tryd.call38 (pops_vp l[i].k) ⟨ot, trivial⟩ ?_
                      refine OD.still (wants_plain rfl) rfl (still_bin rfl opd_const ot (bin_sub (wrap_i64 (by omega) (by omega)))) ?_
                      refine OD.still (wants_plain rfl) rfl (still_bin rfl ot ot (bin_add (wrap_i64 (by omega) (by omega)))) ?_
                      refine OD.still (wants_plain rfl) rfl (still_as rfl ot) ?_
                      refine OD.wk (Wk.as_ (n := 73) (l' := [(3, _), (11, _), (12, _), (13, _)]) (S' := [⟨b5, 52, 5, [_, _, _, _, _]⟩]) rfl rfl ⟨lk, lk, lk, lk, trivial⟩) ?_
                      refine OD.nil ?_
                      refine CD.region ?_
                      refine OD.still (wants_plain rfl) rfl (still_bin rfl ot opd_const (bin_add (wrap_i64 (by omega) (by omega)))) ?_
                      refine OD.still (wants_plain rfl) rfl (still_mv rfl ot) ?_
                      refine OD.wk (Wk.as_ (n := 73) (l' := [(3, _), (11, _), (12, _), (13, _)]) (S' := [⟨b5, 52, 5, [_, _, _, _, _]⟩]) rfl rfl ⟨lk, lk, lk, lk, trivial⟩) ?_
                      refine OD.nil ?_
                      refine ⟨((i + 1), (h + (1 - popsF l[i].k))), ⟨73, [(3, .v (.int .i64 ((h + (1 - popsF l[i].k))))), (11, .list 5 (l.flatMap cO) l.length), (12, .v (.int .i64 l.length)), (13, .v (.int .i64 (((i + 1)) : Nat)))], []⟩, ?_, Wk.asS (n := 73) rfl (by repeat (first | exact List.Sublist.refl _ | apply List.Sublist.cons)) ⟨(by (repeat (first | exact look_hit | (apply look_at; focus (first | rfl | (simp; done) | (congr 2; omega))) | (apply look_miss; focus rfl))); done), (by (repeat (first | exact look_hit | (apply look_at; focus (first | rfl | (simp; done) | (congr 2; omega))) | (apply look_miss; focus rfl))); done), (by (repeat (first | exact look_hit | (apply look_at; focus (first | rfl | (simp; done) | (congr 2; omega))) | (apply look_miss; focus rfl))); done), (by (repeat (first | exact look_hit | (apply look_at; focus (first | rfl | (simp; done) | (congr 2; omega))) | (apply look_miss; focus rfl))); done), trivial⟩, (by omega), (by rw [hx]; exact exprL_ok hlt hok), (by omega), (by have := pops_bd l[i].k; omega), rfl⟩
                      first | omega | (simp only []; omega)
            · have hg34' := hg34; (try simp only [decide_eq_true_eq, decide_eq_false_iff_not, beq_iff_eq, bne_iff_ne, Bool.not_eq_true', Bool.not_eq_false', Bool.not_eq_true, Bool.not_eq_false, beq_eq_false_iff_ne, ne_eq, bne_eq_false_iff_eq, Bool.and_eq_true, Bool.or_eq_true, Bool.not_not] at hg34')
              refine OD.skip (wants_F rfl rfl rfl lk (by first | rfl | assumption)) rfl ?_
              refine OD.skip (wants_F rfl rfl rfl lk (by first | rfl | assumption)) rfl ?_
              refine OD.skip (wants_F rfl rfl rfl lk (by first | rfl | assumption)) rfl ?_
              refine OD.skip (wants_F rfl rfl rfl lk (by first | rfl | assumption)) rfl ?_
              refine OD.still (wants_plain rfl) rfl (still_pickF rfl ot (by first | rfl | assumption) opd_const) ?_
              refine OD.still (wants_plain rfl) rfl (still_mv rfl ot) ?_
              refine OD.still (wants_T rfl rfl rfl lk (by first | rfl | assumption)) rfl (still_r1 (mk := fun y => Op.fieldAddr 52 y 0) rfl ot (by first | exact fa_ptr (off := 0) Tryd.runUnderlying52 rfl Tryd.sizeOf3 rfl | exact fa_iptr (off := 0) Tryd.runUnderlying52 rfl Tryd.sizeOf3 rfl)) ?_
              refine OD.still (wants_T rfl rfl rfl lk (by first | rfl | assumption)) rfl (still_r1 (mk := Op.load 3) rfl ot (by first | exact ld_blk (k := 0) rfl rfl Tryd.isAgg3 rfl | exact ld_fm cO_len Tryd.isAgg3 (by first | assumption | omega) rfl | exact ld_fm0 cO_len Tryd.isAgg3 (by first | assumption | omega) rfl | exact ld_row (k := 0) cO_len rfl rfl rfl Tryd.isAgg3 (by first | assumption | omega) rfl | exact ld_row0 (k := 0) cO_len rfl rfl rfl Tryd.isAgg3 (by first | assumption | omega) rfl | exact ld_i Tryd.isAgg3 rfl)) ?_
              refine OD.still (wants_T rfl rfl rfl lk (by first | rfl | assumption)) rfl (still_bin rfl ot opd_const bin_neq) ?_
              refine OD.still (wants_T rfl rfl rfl lk (by first | rfl | assumption)) rfl (still_mv rfl ot) ?_
              refine OD.split (t := 44) lk (fun hg44 => ?_) (fun hg44 => ?_)
              · have hg44' := hg44; (try simp only [decide_eq_true_eq, decide_eq_false_iff_not, beq_iff_eq, bne_iff_ne, Bool.not_eq_true', Bool.not_eq_false', Bool.not_eq_true, Bool.not_eq_false, beq_eq_false_iff_ne, ne_eq, bne_eq_false_iff_eq, Bool.and_eq_true, Bool.or_eq_true, Bool.not_not] at hg44')
                refine OD.still (wants_T rfl rfl rfl lk (by first | rfl | assumption)) rfl (still_r1 (mk := fun y => Op.fieldAddr 52 y 2) rfl ot (by first | exact fa_ptr (off := 4) Tryd.runUnderlying52 rfl Tryd.sizeOf9 rfl | exact fa_iptr (off := 4) Tryd.runUnderlying52 rfl Tryd.sizeOf9 rfl)) ?_
                refine OD.still (wants_T rfl rfl rfl lk (by first | rfl | assumption)) rfl (still_r1 (mk := Op.load 9) rfl ot (by first | exact ld_blk (k := 0) rfl rfl Tryd.isAgg9 rfl | exact ld_fm cO_len Tryd.isAgg9 (by first | assumption | omega) rfl | exact ld_fm0 cO_len Tryd.isAgg9 (by first | assumption | omega) rfl | exact ld_row (k := 0) cO_len rfl rfl rfl Tryd.isAgg9 (by first | assumption | omega) rfl | exact ld_row0 (k := 0) cO_len rfl rfl rfl Tryd.isAgg9 (by first | assumption | omega) rfl | exact ld_i Tryd.isAgg9 rfl)) ?_
                refine OD.still (wants_T rfl rfl rfl lk (by first | rfl | assumption)) rfl (still_bin rfl ot opd_const bin_sneq) ?_
                refine OD.still (wants_T rfl rfl rfl lk (by first | rfl | assumption)) rfl (still_pickT rfl ot (by first | rfl | assumption) ot) ?_
                refine OD.still (wants_plain rfl) rfl (still_pickF rfl ot (by first | rfl | assumption) ot) ?_
                refine OD.wk (Wk.as_ (n := 73) (l' := [(3, _), (5, _), (11, _), (12, _), (13, _), (49, _)]) (S' := [⟨b5, 52, 5, [_, _, _, _, _]⟩]) rfl rfl ⟨lk, lk, lk, lk, lk, lk, trivial⟩) ?_
                refine OD.nil ?_
                refine CD.cond ot (fun hc4 => ?_) (fun hc4 => ?_)
                · have hc4' := hc4
                  (try simp only [decide_eq_true_eq, decide_eq_false_iff_not, beq_iff_eq, bne_iff_ne, Bool.not_eq_true', Bool.not_eq_false', Bool.not_eq_true, Bool.not_eq_false, beq_eq_false_iff_ne, ne_eq, bne_eq_false_iff_eq, Bool.and_eq_true, Bool.or_eq_true, Bool.not_not, Bool.and_eq_false_iff, Bool.or_eq_false_iff, Int.not_lt, Int.not_le] at hc4')
                  have herr : opErr h l[i] = 6 := by unfold opErr zeroV; rw [if_neg hk1, if_neg (by rw [hlit]; simp), if_pos (by simp_all)]
                  refine CD.seq ?_
                  refine CD.region ?_
                  refine OD.still (wants_plain rfl) rfl (still_as rfl opd_const) ?_
                  refine OD.wk (Wk.as_ (n := 73) (l' := [(2, _)]) (S' := [⟨b5, 52, 5, [_, _, _, _, _]⟩]) rfl rfl ⟨lk, trivial⟩) ?_
                  refine OD.nil ?_
                  refine CD.ret ?_
                  refine ⟨.inr rfl, _, [], List.nil_sublist _, ret_one Tryd.results21 (res_tmp (Nat.le_of_ble_eq_true rfl) lk), ?_⟩
                  refine ⟨vi ?_, rfl⟩
                  first | exact hf.symm | (rw [hf, hx, exprL_no hlt herr (by first | assumption | decide)]; done) | (rw [hf, hend, if_pos (by simpa using hc8)]; done) | (rw [hf, hend, if_neg (by simpa using hc8)]; done)
                · have hc4' := hc4
                  (try simp only [decide_eq_true_eq, decide_eq_false_iff_not, beq_iff_eq, bne_iff_ne, Bool.not_eq_true', Bool.not_eq_false', Bool.not_eq_true, Bool.not_eq_false, beq_eq_false_iff_ne, ne_eq, bne_eq_false_iff_eq, Bool.and_eq_true, Bool.or_eq_true, Bool.not_not, Bool.and_eq_false_iff, Bool.or_eq_false_iff, Int.not_lt, Int.not_le] at hc4')
                  have hform : ¬ ((l[i].k != 1 && !(zeroV l[i].v)) || (l[i].k != 2 && !(l[i].nm.toList == (⟨#[]⟩ : ByteArray).toList))) = true := by unfold zeroV; simp_all
                  refine CD.skip ?_
                  refine CD.seq ?_
                  refine CD.seq ?_
                  refine CD.region ?_
                  refine OD.still (wants_plain rfl) rfl (still_r1 (mk := fun y => Op.fieldAddr 52 y 0) rfl ot (by first | exact fa_ptr (off := 0) Tryd.runUnderlying52 rfl Tryd.sizeOf3 rfl | exact fa_iptr (off := 0) Tryd.runUnderlying52 rfl Tryd.sizeOf3 rfl)) ?_
                  refine OD.still (wants_plain rfl) rfl (still_r1 (mk := Op.load 3) rfl ot (by first | exact ld_blk (k := 0) rfl rfl Tryd.isAgg3 rfl | exact ld_fm cO_len Tryd.isAgg3 (by first | assumption | omega) rfl | exact ld_fm0 cO_len Tryd.isAgg3 (by first | assumption | omega) rfl | exact ld_row (k := 0) cO_len rfl rfl rfl Tryd.isAgg3 (by first | assumption | omega) rfl | exact ld_row0 (k := 0) cO_len rfl rfl rfl Tryd.isAgg3 (by first | assumption | omega) rfl | exact ld_i Tryd.isAgg3 rfl)) ?_
                  refine OD.still (wants_plain rfl) rfl (still_bin rfl ot opd_const bin_eql) ?_
                  refine OD.wk (Wk.as_ (n := 73) (l' := [(3, _), (5, _), (11, _), (12, _), (13, _), (52, _)]) (S' := [⟨b5, 52, 5, [_, _, _, _, _]⟩]) rfl rfl ⟨lk, lk, lk, lk, lk, lk, trivial⟩) ?_
                  refine OD.nil ?_
                  refine CD.cond ot (fun hc5 => ?_) (fun hc5 => ?_)
                  · have hc5' := hc5
                    (try simp only [decide_eq_true_eq, decide_eq_false_iff_not, beq_iff_eq, bne_iff_ne, Bool.not_eq_true', Bool.not_eq_false', Bool.not_eq_true, Bool.not_eq_false, beq_eq_false_iff_ne, ne_eq, bne_eq_false_iff_eq, Bool.and_eq_true, Bool.or_eq_true, Bool.not_not, Bool.and_eq_false_iff, Bool.or_eq_false_iff, Int.not_lt, Int.not_le] at hc5')
                    refine CD.seq ?_
                    refine CD.region ?_
                    refine OD.still (wants_plain rfl) rfl (still_r1 (mk := fun y => Op.fieldAddr 52 y 2) rfl ot (by first | exact fa_ptr (off := 4) Tryd.runUnderlying52 rfl Tryd.sizeOf9 rfl | exact fa_iptr (off := 4) Tryd.runUnderlying52 rfl Tryd.sizeOf9 rfl)) ?_
                    refine OD.still (wants_plain rfl) rfl (still_r1 (mk := Op.load 9) rfl ot (by first | exact ld_blk (k := 0) rfl rfl Tryd.isAgg9 rfl | exact ld_fm cO_len Tryd.isAgg9 (by first | assumption | omega) rfl | exact ld_fm0 cO_len Tryd.isAgg9 (by first | assumption | omega) rfl | exact ld_row (k := 0) cO_len rfl rfl rfl Tryd.isAgg9 (by first | assumption | omega) rfl | exact ld_row0 (k := 0) cO_len rfl rfl rfl Tryd.isAgg9 (by first | assumption | omega) rfl | exact ld_i Tryd.isAgg9 rfl)) ?_
                    refine OD.callP (wants_plain rfl) rfl rfl rfl Tryd.call19 (name_vp hm hw l[i].nm (hs _ (List.getElem_mem hlt))) ⟨ot, trivial⟩ ?_
                    refine OD.still (wants_plain rfl) rfl (still_as rfl ot) ?_
                    refine OD.wk (Wk.as_ (n := 73) (l' := [(3, _), (5, _), (7, _), (11, _), (12, _), (13, _)]) (S' := [⟨b5, 52, 5, [_, _, _, _, _]⟩]) rfl rfl ⟨lk, lk, lk, lk, lk, lk, trivial⟩) ?_
                    refine OD.nil ?_
                    refine CD.seq ?_
                    refine CD.region ?_
                    refine OD.still (wants_plain rfl) rfl (still_mv rfl ot) ?_
                    refine OD.still (wants_plain rfl) rfl (still_bin rfl ot opd_const bin_neq) ?_
                    refine OD.wk (Wk.as_ (n := 73) (l' := [(3, _), (5, _), (7, _), (11, _), (12, _), (13, _), (57, _)]) (S' := [⟨b5, 52, 5, [_, _, _, _, _]⟩]) rfl rfl ⟨lk, lk, lk, lk, lk, lk, lk, trivial⟩) ?_
                    refine OD.nil ?_
                    refine CD.cond ot (fun hc6 => ?_) (fun hc6 => ?_)
                    · have hc6' := hc6
                      (try simp only [decide_eq_true_eq, decide_eq_false_iff_not, beq_iff_eq, bne_iff_ne, Bool.not_eq_true', Bool.not_eq_false', Bool.not_eq_true, Bool.not_eq_false, beq_eq_false_iff_ne, ne_eq, bne_eq_false_iff_eq, Bool.and_eq_true, Bool.or_eq_true, Bool.not_not, Bool.and_eq_false_iff, Bool.or_eq_false_iff, Int.not_lt, Int.not_le] at hc6')
                      have hnm : nameF l[i].nm ≠ 0 := by simpa using hc6
                      have herr : opErr h l[i] = nameF l[i].nm := by unfold opErr; rw [if_neg hk1, if_neg (by rw [hlit]; simp), if_neg hform, if_pos ⟨by simpa using hc5, hnm⟩]
                      refine CD.seq ?_
                      refine CD.region ?_
                      refine OD.still (wants_plain rfl) rfl (still_mv rfl ot) ?_
                      refine OD.still (wants_plain rfl) rfl (still_as rfl ot) ?_
                      refine OD.wk (Wk.as_ (n := 73) (l' := [(2, _)]) (S' := [⟨b5, 52, 5, [_, _, _, _, _]⟩]) rfl rfl ⟨lk, trivial⟩) ?_
                      refine OD.nil ?_
                      refine CD.ret ?_
                      refine ⟨.inr rfl, _, [], List.nil_sublist _, ret_one Tryd.results21 (res_tmp (Nat.le_of_ble_eq_true rfl) lk), ?_⟩
                      refine ⟨vi ?_, rfl⟩
                      first | exact hf.symm | (rw [hf, hx, exprL_no hlt herr (by first | assumption | decide)]; done) | (rw [hf, hend, if_pos (by simpa using hc8)]; done) | (rw [hf, hend, if_neg (by simpa using hc8)]; done)
                    · have hc6' := hc6
                      (try simp only [decide_eq_true_eq, decide_eq_false_iff_not, beq_iff_eq, bne_iff_ne, Bool.not_eq_true', Bool.not_eq_false', Bool.not_eq_true, Bool.not_eq_false, beq_eq_false_iff_ne, ne_eq, bne_eq_false_iff_eq, Bool.and_eq_true, Bool.or_eq_true, Bool.not_not, Bool.and_eq_false_iff, Bool.or_eq_false_iff, Int.not_lt, Int.not_le] at hc6')
                      have hnn : ¬ (l[i].k = 2 ∧ nameF l[i].nm ≠ 0) := by simp at hc6; simp [hc6]
                      refine CD.skip ?_
                      refine CD.seq ?_
                      refine CD.seq ?_
                      refine CD.region ?_
                      refine OD.still (wants_plain rfl) rfl (still_mv rfl ot) ?_
                      refine OD.still (wants_plain rfl) rfl (still_r1 (mk := fun y => Op.fieldAddr 52 y 0) rfl ot (by first | exact fa_ptr (off := 0) Tryd.runUnderlying52 rfl Tryd.sizeOf3 rfl | exact fa_iptr (off := 0) Tryd.runUnderlying52 rfl Tryd.sizeOf3 rfl)) ?_
                      refine OD.still (wants_plain rfl) rfl (still_r1 (mk := Op.load 3) rfl ot (by first | exact ld_blk (k := 0) rfl rfl Tryd.isAgg3 rfl | exact ld_fm cO_len Tryd.isAgg3 (by first | assumption | omega) rfl | exact ld_fm0 cO_len Tryd.isAgg3 (by first | assumption | omega) rfl | exact ld_row (k := 0) cO_len rfl rfl rfl Tryd.isAgg3 (by first | assumption | omega) rfl | exact ld_row0 (k := 0) cO_len rfl rfl rfl Tryd.isAgg3 (by first | assumption | omega) rfl | exact ld_i Tryd.isAgg3 rfl)) ?_
                      refine OD.callP (wants_plain rfl) rfl rfl rfl Tryd.call38 (pops_vp l[i].k) ⟨ot, trivial⟩ ?_
                      refine OD.still (wants_plain rfl) rfl (still_bin rfl ot ot bin_lss) ?_
                      refine OD.wk (Wk.as_ (n := 73) (l' := [(3, _), (5, _), (11, _), (12, _), (13, _), (63, _)]) (S' := [⟨b5, 52, 5, [_, _, _, _, _]⟩]) rfl rfl ⟨lk, lk, lk, lk, lk, lk, trivial⟩) ?_
                      refine OD.nil ?_
                      refine CD.cond ot (fun hc7 => ?_) (fun hc7 => ?_)
                      · have hc7' := hc7
                        (try simp only [decide_eq_true_eq, decide_eq_false_iff_not, beq_iff_eq, bne_iff_ne, Bool.not_eq_true', Bool.not_eq_false', Bool.not_eq_true, Bool.not_eq_false, beq_eq_false_iff_ne, ne_eq, bne_eq_false_iff_eq, Bool.and_eq_true, Bool.or_eq_true, Bool.not_not, Bool.and_eq_false_iff, Bool.or_eq_false_iff, Int.not_lt, Int.not_le] at hc7')
                        have hsh : h < popsF l[i].k := by simpa using hc7
                        have herr : opErr h l[i] = 7 := by unfold opErr; rw [if_neg hk1, if_neg (by rw [hlit]; simp), if_neg hform, if_neg hnn, if_pos hsh]
                        refine CD.seq ?_
                        refine CD.region ?_
                        refine OD.still (wants_plain rfl) rfl (still_as rfl opd_const) ?_
                        refine OD.wk (Wk.as_ (n := 73) (l' := [(2, _)]) (S' := [⟨b5, 52, 5, [_, _, _, _, _]⟩]) rfl rfl ⟨lk, trivial⟩) ?_
                        refine OD.nil ?_
                        refine CD.ret ?_
                        refine ⟨.inr rfl, _, [], List.nil_sublist _, ret_one Tryd.results21 (res_tmp (Nat.le_of_ble_eq_true rfl) lk), ?_⟩
                        refine ⟨vi ?_, rfl⟩
                        first | exact hf.symm | (rw [hf, hx, exprL_no hlt herr (by first | assumption | decide)]; done) | (rw [hf, hend, if_pos (by simpa using hc8)]; done) | (rw [hf, hend, if_neg (by simpa using hc8)]; done)
                      · have hc7' := hc7
                        (try simp only [decide_eq_true_eq, decide_eq_false_iff_not, beq_iff_eq, bne_iff_ne, Bool.not_eq_true', Bool.not_eq_false', Bool.not_eq_true, Bool.not_eq_false, beq_eq_false_iff_ne, ne_eq, bne_eq_false_iff_eq, Bool.and_eq_true, Bool.or_eq_true, Bool.not_not, Bool.and_eq_false_iff, Bool.or_eq_false_iff, Int.not_lt, Int.not_le] at hc7')
                        have hsh : ¬ h < popsF l[i].k := by simpa using hc7
                        have hok : opErr h l[i] = 0 := by unfold opErr; rw [if_neg hk1, if_neg (by rw [hlit]; simp), if_neg hform, if_neg hnn, if_neg hsh]
                        refine CD.skip ?_
                        refine CD.region ?_
                        refine OD.still (wants_plain rfl) rfl (still_mv rfl ot) ?_
                        refine OD.still (wants_plain rfl) rfl (still_r1 (mk := fun y => Op.fieldAddr 52 y 0) rfl ot (by first | exact fa_ptr (off := 0) Tryd.runUnderlying52 rfl Tryd.sizeOf3 rfl | exact fa_iptr (off := 0) Tryd.runUnderlying52 rfl Tryd.sizeOf3 rfl)) ?_
                        refine OD.still (wants_plain rfl) rfl (still_r1 (mk := Op.load 3) rfl ot (by first | exact ld_blk (k := 0) rfl rfl Tryd.isAgg3 rfl | exact ld_fm cO_len Tryd.isAgg3 (by first | assumption | omega) rfl | exact ld_fm0 cO_len Tryd.isAgg3 (by first | assumption | omega) rfl | exact ld_row (k := 0) cO_len rfl rfl rfl Tryd.isAgg3 (by first | assumption | omega) rfl | exact ld_row0 (k := 0) cO_len rfl rfl rfl Tryd.isAgg3 (by first | assumption | omega) rfl | exact ld_i Tryd.isAgg3 rfl)) ?_
                        refine OD.callP (wants_plain rfl) rfl rfl rfl Tryd.call38 (pops_vp l[i].k) ⟨ot, trivial⟩ ?_
                        refine OD.still (wants_plain rfl) rfl (still_bin rfl opd_const ot (bin_sub (wrap_i64 (by omega) (by omega)))) ?_
                        refine OD.still (wants_plain rfl) rfl (still_bin rfl ot ot (bin_add (wrap_i64 (by omega) (by omega)))) ?_
                        refine OD.still (wants_plain rfl) rfl (still_as rfl ot) ?_
                        refine OD.wk (Wk.as_ (n := 73) (l' := [(3, _), (11, _), (12, _), (13, _)]) (S' := [⟨b5, 52, 5, [_, _, _, _, _]⟩]) rfl rfl ⟨lk, lk, lk, lk, trivial⟩) ?_
                        refine OD.nil ?_
                        refine CD.region ?_
                        refine OD.still (wants_plain rfl) rfl (still_bin rfl ot opd_const (bin_add (wrap_i64 (by omega) (by omega)))) ?_
                        refine OD.still (wants_plain rfl) rfl (still_mv rfl ot) ?_
                        refine OD.wk (Wk.as_ (n := 73) (l' := [(3, _), (11, _), (12, _), (13, _)]) (S' := [⟨b5, 52, 5, [_, _, _, _, _]⟩]) rfl rfl ⟨lk, lk, lk, lk, trivial⟩) ?_
                        refine OD.nil ?_
                        refine ⟨((i + 1), (h + (1 - popsF l[i].k))), ⟨73, [(3, .v (.int .i64 ((h + (1 - popsF l[i].k))))), (11, .list 5 (l.flatMap cO) l.length), (12, .v (.int .i64 l.length)), (13, .v (.int .i64 (((i + 1)) : Nat)))], []⟩, ?_, Wk.asS (n := 73) rfl (by repeat (first | exact List.Sublist.refl _ | apply List.Sublist.cons)) ⟨(by (repeat (first | exact look_hit | (apply look_at; focus (first | rfl | (simp; done) | (congr 2; omega))) | (apply look_miss; focus rfl))); done), (by (repeat (first | exact look_hit | (apply look_at; focus (first | rfl | (simp; done) | (congr 2; omega))) | (apply look_miss; focus rfl))); done), (by (repeat (first | exact look_hit | (apply look_at; focus (first | rfl | (simp; done) | (congr 2; omega))) | (apply look_miss; focus rfl))); done), (by (repeat (first | exact look_hit | (apply look_at; focus (first | rfl | (simp; done) | (congr 2; omega))) | (apply look_miss; focus rfl))); done), trivial⟩, (by omega), (by rw [hx]; exact exprL_ok hlt hok), (by omega), (by have := pops_bd l[i].k; omega), rfl⟩
                        first | omega | (simp only []; omega)
                  · have hc5' := hc5
                    (try simp only [decide_eq_true_eq, decide_eq_false_iff_not, beq_iff_eq, bne_iff_ne, Bool.not_eq_true', Bool.not_eq_false', Bool.not_eq_true, Bool.not_eq_false, beq_eq_false_iff_ne, ne_eq, bne_eq_false_iff_eq, Bool.and_eq_true, Bool.or_eq_true, Bool.not_not, Bool.and_eq_false_iff, Bool.or_eq_false_iff, Int.not_lt, Int.not_le] at hc5')
                    have hnn : ¬ (l[i].k = 2 ∧ nameF l[i].nm ≠ 0) := by simp at hc5; simp [hc5]
                    refine CD.skip ?_
                    refine CD.seq ?_
                    refine CD.seq ?_
                    refine CD.region ?_
                    refine OD.still (wants_plain rfl) rfl (still_mv rfl ot) ?_
                    refine OD.still (wants_plain rfl) rfl (still_r1 (mk := fun y => Op.fieldAddr 52 y 0) rfl ot (by first | exact fa_ptr (off := 0) Tryd.runUnderlying52 rfl Tryd.sizeOf3 rfl | exact fa_iptr (off := 0) Tryd.runUnderlying52 rfl Tryd.sizeOf3 rfl)) ?_
                    refine OD.still (wants_plain rfl) rfl (still_r1 (mk := Op.load 3) rfl ot (by first | exact ld_blk (k := 0) rfl rfl Tryd.isAgg3 rfl | exact ld_fm cO_len Tryd.isAgg3 (by first | assumption | omega) rfl | exact ld_fm0 cO_len Tryd.isAgg3 (by first | assumption | omega) rfl | exact ld_row (k := 0) cO_len rfl rfl rfl Tryd.isAgg3 (by first | assumption | omega) rfl | exact ld_row0 (k := 0) cO_len rfl rfl rfl Tryd.isAgg3 (by first | assumption | omega) rfl | exact ld_i Tryd.isAgg3 rfl)) ?_
                    refine OD.callP (wants_plain rfl) rfl rfl rfl Tryd.call38 (pops_vp l[i].k) ⟨ot, trivial⟩ ?_
                    refine OD.still (wants_plain rfl) rfl (still_bin rfl ot ot bin_lss) ?_
                    refine OD.wk (Wk.as_ (n := 73) (l' := [(3, _), (5, _), (11, _), (12, _), (13, _), (63, _)]) (S' := [⟨b5, 52, 5, [_, _, _, _, _]⟩]) rfl rfl ⟨lk, lk, lk, lk, lk, lk, trivial⟩) ?_
                    refine OD.nil ?_
                    refine CD.cond ot (fun hc7 => ?_) (fun hc7 => ?_)
                    · have hc7' := hc7
                      (try simp only [decide_eq_true_eq, decide_eq_false_iff_not, beq_iff_eq, bne_iff_ne, Bool.not_eq_true', Bool.not_eq_false', Bool.not_eq_true, Bool.not_eq_false, beq_eq_false_iff_ne, ne_eq, bne_eq_false_iff_eq, Bool.and_eq_true, Bool.or_eq_true, Bool.not_not, Bool.and_eq_false_iff, Bool.or_eq_false_iff, Int.not_lt, Int.not_le] at hc7')
                      have hsh : h < popsF l[i].k := by simpa using hc7
                      have herr : opErr h l[i] = 7 := by unfold opErr; rw [if_neg hk1, if_neg (by rw [hlit]; simp), if_neg hform, if_neg hnn, if_pos hsh]
                      refine CD.seq ?_
                      refine CD.region ?_
                      refine OD.still (wants_plain rfl) rfl (still_as rfl opd_const) ?_
                      refine OD.wk (Wk.as_ (n := 73) (l' := [(2, _)]) (S' := [⟨b5, 52, 5, [_, _, _, _, _]⟩]) rfl rfl ⟨lk, trivial⟩) ?_
                      refine OD.nil ?_
                      refine CD.ret ?_
                      refine ⟨.inr rfl, _, [], List.nil_sublist _, ret_one Tryd.results21 (res_tmp (Nat.le_of_ble_eq_true rfl) lk), ?_⟩
                      refine ⟨vi ?_, rfl⟩
                      first | exact hf.symm | (rw [hf, hx, exprL_no hlt herr (by first | assumption | decide)]; done) | (rw [hf, hend, if_pos (by simpa using hc8)]; done) | (rw [hf, hend, if_neg (by simpa using hc8)]; done)
                    · have hc7' := hc7
                      (try simp only [decide_eq_true_eq, decide_eq_false_iff_not, beq_iff_eq, bne_iff_ne, Bool.not_eq_true', Bool.not_eq_false', Bool.not_eq_true, Bool.not_eq_false, beq_eq_false_iff_ne, ne_eq, bne_eq_false_iff_eq, Bool.and_eq_true, Bool.or_eq_true, Bool.not_not, Bool.and_eq_false_iff, Bool.or_eq_false_iff, Int.not_lt, Int.not_le] at hc7')
                      have hsh : ¬ h < popsF l[i].k := by simpa using hc7
                      have hok : opErr h l[i] = 0 := by unfold opErr; rw [if_neg hk1, if_neg (by rw [hlit]; simp), if_neg hform, if_neg hnn, if_neg hsh]
                      refine CD.skip ?_
                      refine CD.region ?_
                      refine OD.still (wants_plain rfl) rfl (still_mv rfl ot) ?_
                      refine OD.still (wants_plain rfl) rfl (still_r1 (mk := fun y => Op.fieldAddr 52 y 0) rfl ot (by first | exact fa_ptr (off := 0) Tryd.runUnderlying52 rfl Tryd.sizeOf3 rfl | exact fa_iptr (off := 0) Tryd.runUnderlying52 rfl Tryd.sizeOf3 rfl)) ?_
                      refine OD.still (wants_plain rfl) rfl (still_r1 (mk := Op.load 3) rfl ot (by first | exact ld_blk (k := 0) rfl rfl Tryd.isAgg3 rfl | exact ld_fm cO_len Tryd.isAgg3 (by first | assumption | omega) rfl | exact ld_fm0 cO_len Tryd.isAgg3 (by first | assumption | omega) rfl | exact ld_row (k := 0) cO_len rfl rfl rfl Tryd.isAgg3 (by first | assumption | omega) rfl | exact ld_row0 (k := 0) cO_len rfl rfl rfl Tryd.isAgg3 (by first | assumption | omega) rfl | exact ld_i Tryd.isAgg3 rfl)) ?_
                      refine OD.callP (wants_plain rfl) rfl rfl rfl Tryd.call38 (pops_vp l[i].k) ⟨ot, trivial⟩ ?_
                      refine OD.still (wants_plain rfl) rfl (still_bin rfl opd_const ot (bin_sub (wrap_i64 (by omega) (by omega)))) ?_
                      refine OD.still (wants_plain rfl) rfl (still_bin rfl ot ot (bin_add (wrap_i64 (by omega) (by omega)))) ?_
                      refine OD.still (wants_plain rfl) rfl (still_as rfl ot) ?_
                      refine OD.wk (Wk.as_ (n := 73) (l' := [(3, _), (11, _), (12, _), (13, _)]) (S' := [⟨b5, 52, 5, [_, _, _, _, _]⟩]) rfl rfl ⟨lk, lk, lk, lk, trivial⟩) ?_
                      refine OD.nil ?_
                      refine CD.region ?_
                      refine OD.still (wants_plain rfl) rfl (still_bin rfl ot opd_const (bin_add (wrap_i64 (by omega) (by omega)))) ?_
                      refine OD.still (wants_plain rfl) rfl (still_mv rfl ot) ?_
                      refine OD.wk (Wk.as_ (n := 73) (l' := [(3, _), (11, _), (12, _), (13, _)]) (S' := [⟨b5, 52, 5, [_, _, _, _, _]⟩]) rfl rfl ⟨lk, lk, lk, lk, trivial⟩) ?_
                      refine OD.nil ?_
                      refine ⟨((i + 1), (h + (1 - popsF l[i].k))), ⟨73, [(3, .v (.int .i64 ((h + (1 - popsF l[i].k))))), (11, .list 5 (l.flatMap cO) l.length), (12, .v (.int .i64 l.length)), (13, .v (.int .i64 (((i + 1)) : Nat)))], []⟩, ?_, Wk.asS (n := 73) rfl (by repeat (first | exact List.Sublist.refl _ | apply List.Sublist.cons)) ⟨(by (repeat (first | exact look_hit | (apply look_at; focus (first | rfl | (simp; done) | (congr 2; omega))) | (apply look_miss; focus rfl))); done), (by (repeat (first | exact look_hit | (apply look_at; focus (first | rfl | (simp; done) | (congr 2; omega))) | (apply look_miss; focus rfl))); done), (by (repeat (first | exact look_hit | (apply look_at; focus (first | rfl | (simp; done) | (congr 2; omega))) | (apply look_miss; focus rfl))); done), (by (repeat (first | exact look_hit | (apply look_at; focus (first | rfl | (simp; done) | (congr 2; omega))) | (apply look_miss; focus rfl))); done), trivial⟩, (by omega), (by rw [hx]; exact exprL_ok hlt hok), (by omega), (by have := pops_bd l[i].k; omega), rfl⟩
                      first | omega | (simp only []; omega)
              · have hg44' := hg44; (try simp only [decide_eq_true_eq, decide_eq_false_iff_not, beq_iff_eq, bne_iff_ne, Bool.not_eq_true', Bool.not_eq_false', Bool.not_eq_true, Bool.not_eq_false, beq_eq_false_iff_ne, ne_eq, bne_eq_false_iff_eq, Bool.and_eq_true, Bool.or_eq_true, Bool.not_not] at hg44')
                refine OD.skip (wants_F rfl rfl rfl lk (by first | rfl | assumption)) rfl ?_
                refine OD.skip (wants_F rfl rfl rfl lk (by first | rfl | assumption)) rfl ?_
                refine OD.skip (wants_F rfl rfl rfl lk (by first | rfl | assumption)) rfl ?_
                refine OD.still (wants_T rfl rfl rfl lk (by first | rfl | assumption)) rfl (still_pickF rfl ot (by first | rfl | assumption) opd_const) ?_
                refine OD.still (wants_plain rfl) rfl (still_pickF rfl ot (by first | rfl | assumption) ot) ?_
                refine OD.wk (Wk.as_ (n := 73) (l' := [(3, _), (5, _), (11, _), (12, _), (13, _), (49, _)]) (S' := [⟨b5, 52, 5, [_, _, _, _, _]⟩]) rfl rfl ⟨lk, lk, lk, lk, lk, lk, trivial⟩) ?_
                refine OD.nil ?_
                refine CD.condF ot (by first | rfl | assumption) ?_
                have hform : ¬ ((l[i].k != 1 && !(zeroV l[i].v)) || (l[i].k != 2 && !(l[i].nm.toList == (⟨#[]⟩ : ByteArray).toList))) = true := by unfold zeroV; simp_all
                refine CD.skip ?_
                refine CD.seq ?_
                refine CD.seq ?_
                refine CD.region ?_
                refine OD.still (wants_plain rfl) rfl (still_r1 (mk := fun y => Op.fieldAddr 52 y 0) rfl ot (by first | exact fa_ptr (off := 0) Tryd.runUnderlying52 rfl Tryd.sizeOf3 rfl | exact fa_iptr (off := 0) Tryd.runUnderlying52 rfl Tryd.sizeOf3 rfl)) ?_
                refine OD.still (wants_plain rfl) rfl (still_r1 (mk := Op.load 3) rfl ot (by first | exact ld_blk (k := 0) rfl rfl Tryd.isAgg3 rfl | exact ld_fm cO_len Tryd.isAgg3 (by first | assumption | omega) rfl | exact ld_fm0 cO_len Tryd.isAgg3 (by first | assumption | omega) rfl | exact ld_row (k := 0) cO_len rfl rfl rfl Tryd.isAgg3 (by first | assumption | omega) rfl | exact ld_row0 (k := 0) cO_len rfl rfl rfl Tryd.isAgg3 (by first | assumption | omega) rfl | exact ld_i Tryd.isAgg3 rfl)) ?_
                refine OD.still (wants_plain rfl) rfl (still_bin rfl ot opd_const bin_eql) ?_
                refine OD.wk (Wk.as_ (n := 73) (l' := [(3, _), (5, _), (11, _), (12, _), (13, _), (52, _)]) (S' := [⟨b5, 52, 5, [_, _, _, _, _]⟩]) rfl rfl ⟨lk, lk, lk, lk, lk, lk, trivial⟩) ?_
                refine OD.nil ?_
                refine CD.cond ot (fun hc5 => ?_) (fun hc5 => ?_)
                · have hc5' := hc5
                  (try simp only [decide_eq_true_eq, decide_eq_false_iff_not, beq_iff_eq, bne_iff_ne, Bool.not_eq_true', Bool.not_eq_false', Bool.not_eq_true, Bool.not_eq_false, beq_eq_false_iff_ne, ne_eq, bne_eq_false_iff_eq, Bool.and_eq_true, Bool.or_eq_true, Bool.not_not, Bool.and_eq_false_iff, Bool.or_eq_false_iff, Int.not_lt, Int.not_le] at hc5')
                  refine CD.seq ?_
                  refine CD.region ?_
                  refine OD.still (wants_plain rfl) rfl (still_r1 (mk := fun y => Op.fieldAddr 52 y 2) rfl ot (by first | exact fa_ptr (off := 4) Tryd.runUnderlying52 rfl Tryd.sizeOf9 rfl | exact fa_iptr (off := 4) Tryd.runUnderlying52 rfl Tryd.sizeOf9 rfl)) ?_
                  refine OD.still (wants_plain rfl) rfl (still_r1 (mk := Op.load 9) rfl ot (by first | exact ld_blk (k := 0) rfl rfl Tryd.isAgg9 rfl | exact ld_fm cO_len Tryd.isAgg9 (by first | assumption | omega) rfl | exact ld_fm0 cO_len Tryd.isAgg9 (by first | assumption | omega) rfl | exact ld_row (k := 0) cO_len rfl rfl rfl Tryd.isAgg9 (by first | assumption | omega) rfl | exact ld_row0 (k := 0) cO_len rfl rfl rfl Tryd.isAgg9 (by first | assumption | omega) rfl | exact ld_i Tryd.isAgg9 rfl)) ?_
                  refine OD.callP (wants_plain rfl) rfl rfl rfl Tryd.call19 (name_vp hm hw l[i].nm (hs _ (List.getElem_mem hlt))) ⟨ot, trivial⟩ ?_
                  refine OD.still (wants_plain rfl) rfl (still_as rfl ot) ?_
                  refine OD.wk (Wk.as_ (n := 73) (l' := [(3, _), (5, _), (7, _), (11, _), (12, _), (13, _)]) (S' := [⟨b5, 52, 5, [_, _, _, _, _]⟩]) rfl rfl ⟨lk, lk, lk, lk, lk, lk, trivial⟩) ?_
                  refine OD.nil ?_
                  refine CD.seq ?_
                  refine CD.region ?_
                  refine OD.still (wants_plain rfl) rfl (still_mv rfl ot) ?_
                  refine OD.still (wants_plain rfl) rfl (still_bin rfl ot opd_const bin_neq) ?_
                  refine OD.wk (Wk.as_ (n := 73) (l' := [(3, _), (5, _), (7, _), (11, _), (12, _), (13, _), (57, _)]) (S' := [⟨b5, 52, 5, [_, _, _, _, _]⟩]) rfl rfl ⟨lk, lk, lk, lk, lk, lk, lk, trivial⟩) ?_
                  refine OD.nil ?_
                  refine CD.cond ot (fun hc6 => ?_) (fun hc6 => ?_)
                  · have hc6' := hc6
                    (try simp only [decide_eq_true_eq, decide_eq_false_iff_not, beq_iff_eq, bne_iff_ne, Bool.not_eq_true', Bool.not_eq_false', Bool.not_eq_true, Bool.not_eq_false, beq_eq_false_iff_ne, ne_eq, bne_eq_false_iff_eq, Bool.and_eq_true, Bool.or_eq_true, Bool.not_not, Bool.and_eq_false_iff, Bool.or_eq_false_iff, Int.not_lt, Int.not_le] at hc6')
                    have hnm : nameF l[i].nm ≠ 0 := by simpa using hc6
                    have herr : opErr h l[i] = nameF l[i].nm := by unfold opErr; rw [if_neg hk1, if_neg (by rw [hlit]; simp), if_neg hform, if_pos ⟨by simpa using hc5, hnm⟩]
                    refine CD.seq ?_
                    refine CD.region ?_
                    refine OD.still (wants_plain rfl) rfl (still_mv rfl ot) ?_
                    refine OD.still (wants_plain rfl) rfl (still_as rfl ot) ?_
                    refine OD.wk (Wk.as_ (n := 73) (l' := [(2, _)]) (S' := [⟨b5, 52, 5, [_, _, _, _, _]⟩]) rfl rfl ⟨lk, trivial⟩) ?_
                    refine OD.nil ?_
                    refine CD.ret ?_
                    refine ⟨.inr rfl, _, [], List.nil_sublist _, ret_one Tryd.results21 (res_tmp (Nat.le_of_ble_eq_true rfl) lk), ?_⟩
                    refine ⟨vi ?_, rfl⟩
                    first | exact hf.symm | (rw [hf, hx, exprL_no hlt herr (by first | assumption | decide)]; done) | (rw [hf, hend, if_pos (by simpa using hc8)]; done) | (rw [hf, hend, if_neg (by simpa using hc8)]; done)
                  · have hc6' := hc6
                    (try simp only [decide_eq_true_eq, decide_eq_false_iff_not, beq_iff_eq, bne_iff_ne, Bool.not_eq_true', Bool.not_eq_false', Bool.not_eq_true, Bool.not_eq_false, beq_eq_false_iff_ne, ne_eq, bne_eq_false_iff_eq, Bool.and_eq_true, Bool.or_eq_true, Bool.not_not, Bool.and_eq_false_iff, Bool.or_eq_false_iff, Int.not_lt, Int.not_le] at hc6')
                    have hnn : ¬ (l[i].k = 2 ∧ nameF l[i].nm ≠ 0) := by simp at hc6; simp [hc6]
                    refine CD.skip ?_
                    refine CD.seq ?_
                    refine CD.seq ?_
                    refine CD.region ?_
                    refine OD.still (wants_plain rfl) rfl (still_mv rfl ot) ?_
                    refine OD.still (wants_plain rfl) rfl (still_r1 (mk := fun y => Op.fieldAddr 52 y 0) rfl ot (by first | exact fa_ptr (off := 0) Tryd.runUnderlying52 rfl Tryd.sizeOf3 rfl | exact fa_iptr (off := 0) Tryd.runUnderlying52 rfl Tryd.sizeOf3 rfl)) ?_
                    refine OD.still (wants_plain rfl) rfl (still_r1 (mk := Op.load 3) rfl ot (by first | exact ld_blk (k := 0) rfl rfl Tryd.isAgg3 rfl | exact ld_fm cO_len Tryd.isAgg3 (by first | assumption | omega) rfl | exact ld_fm0 cO_len Tryd.isAgg3 (by first | assumption | omega) rfl | exact ld_row (k := 0) cO_len rfl rfl rfl Tryd.isAgg3 (by first | assumption | omega) rfl | exact ld_row0 (k := 0) cO_len rfl rfl rfl Tryd.isAgg3 (by first | assumption | omega) rfl | exact ld_i Tryd.isAgg3 rfl)) ?_
                    refine OD.callP (wants_plain rfl) rfl rfl rfl Tryd.call38 (pops_vp l[i].k) ⟨ot, trivial⟩ ?_
                    refine OD.still (wants_plain rfl) rfl (still_bin rfl ot ot bin_lss) ?_
                    refine OD.wk (Wk.as_ (n := 73) (l' := [(3, _), (5, _), (11, _), (12, _), (13, _), (63, _)]) (S' := [⟨b5, 52, 5, [_, _, _, _, _]⟩]) rfl rfl ⟨lk, lk, lk, lk, lk, lk, trivial⟩) ?_
                    refine OD.nil ?_
                    refine CD.cond ot (fun hc7 => ?_) (fun hc7 => ?_)
                    · have hc7' := hc7
                      (try simp only [decide_eq_true_eq, decide_eq_false_iff_not, beq_iff_eq, bne_iff_ne, Bool.not_eq_true', Bool.not_eq_false', Bool.not_eq_true, Bool.not_eq_false, beq_eq_false_iff_ne, ne_eq, bne_eq_false_iff_eq, Bool.and_eq_true, Bool.or_eq_true, Bool.not_not, Bool.and_eq_false_iff, Bool.or_eq_false_iff, Int.not_lt, Int.not_le] at hc7')
                      have hsh : h < popsF l[i].k := by simpa using hc7
                      have herr : opErr h l[i] = 7 := by unfold opErr; rw [if_neg hk1, if_neg (by rw [hlit]; simp), if_neg hform, if_neg hnn, if_pos hsh]
                      refine CD.seq ?_
                      refine CD.region ?_
                      refine OD.still (wants_plain rfl) rfl (still_as rfl opd_const) ?_
                      refine OD.wk (Wk.as_ (n := 73) (l' := [(2, _)]) (S' := [⟨b5, 52, 5, [_, _, _, _, _]⟩]) rfl rfl ⟨lk, trivial⟩) ?_
                      refine OD.nil ?_
                      refine CD.ret ?_
                      refine ⟨.inr rfl, _, [], List.nil_sublist _, ret_one Tryd.results21 (res_tmp (Nat.le_of_ble_eq_true rfl) lk), ?_⟩
                      refine ⟨vi ?_, rfl⟩
                      first | exact hf.symm | (rw [hf, hx, exprL_no hlt herr (by first | assumption | decide)]; done) | (rw [hf, hend, if_pos (by simpa using hc8)]; done) | (rw [hf, hend, if_neg (by simpa using hc8)]; done)
                    · have hc7' := hc7
                      (try simp only [decide_eq_true_eq, decide_eq_false_iff_not, beq_iff_eq, bne_iff_ne, Bool.not_eq_true', Bool.not_eq_false', Bool.not_eq_true, Bool.not_eq_false, beq_eq_false_iff_ne, ne_eq, bne_eq_false_iff_eq, Bool.and_eq_true, Bool.or_eq_true, Bool.not_not, Bool.and_eq_false_iff, Bool.or_eq_false_iff, Int.not_lt, Int.not_le] at hc7')
                      have hsh : ¬ h < popsF l[i].k := by simpa using hc7
                      have hok : opErr h l[i] = 0 := by unfold opErr; rw [if_neg hk1, if_neg (by rw [hlit]; simp), if_neg hform, if_neg hnn, if_neg hsh]
                      refine CD.skip ?_
                      refine CD.region ?_
                      refine OD.still (wants_plain rfl) rfl (still_mv rfl ot) ?_
                      refine OD.still (wants_plain rfl) rfl (still_r1 (mk := fun y => Op.fieldAddr 52 y 0) rfl ot (by first | exact fa_ptr (off := 0) Tryd.runUnderlying52 rfl Tryd.sizeOf3 rfl | exact fa_iptr (off := 0) Tryd.runUnderlying52 rfl Tryd.sizeOf3 rfl)) ?_
                      refine OD.still (wants_plain rfl) rfl (still_r1 (mk := Op.load 3) rfl ot (by first | exact ld_blk (k := 0) rfl rfl Tryd.isAgg3 rfl | exact ld_fm cO_len Tryd.isAgg3 (by first | assumption | omega) rfl | exact ld_fm0 cO_len Tryd.isAgg3 (by first | assumption | omega) rfl | exact ld_row (k := 0) cO_len rfl rfl rfl Tryd.isAgg3 (by first | assumption | omega) rfl | exact ld_row0 (k := 0) cO_len rfl rfl rfl Tryd.isAgg3 (by first | assumption | omega) rfl | exact ld_i Tryd.isAgg3 rfl)) ?_
                      refine OD.callP (wants_plain rfl) rfl rfl rfl Tryd.call38 (pops_vp l[i].k) ⟨ot, trivial⟩ ?_
                      refine OD.still (wants_plain rfl) rfl (still_bin rfl opd_const ot (bin_sub (wrap_i64 (by omega) (by omega)))) ?_
                      refine OD.still (wants_plain rfl) rfl (still_bin rfl ot ot (bin_add (wrap_i64 (by omega) (by omega)))) ?_
                      refine OD.still (wants_plain rfl) rfl (still_as rfl ot) ?_
                      refine OD.wk (Wk.as_ (n := 73) (l' := [(3, _), (11, _), (12, _), (13, _)]) (S' := [⟨b5, 52, 5, [_, _, _, _, _]⟩]) rfl rfl ⟨lk, lk, lk, lk, trivial⟩) ?_
                      refine OD.nil ?_
                      refine CD.region ?_
                      refine OD.still (wants_plain rfl) rfl (still_bin rfl ot opd_const (bin_add (wrap_i64 (by omega) (by omega)))) ?_
                      refine OD.still (wants_plain rfl) rfl (still_mv rfl ot) ?_
                      refine OD.wk (Wk.as_ (n := 73) (l' := [(3, _), (11, _), (12, _), (13, _)]) (S' := [⟨b5, 52, 5, [_, _, _, _, _]⟩]) rfl rfl ⟨lk, lk, lk, lk, trivial⟩) ?_
                      refine OD.nil ?_
                      refine ⟨((i + 1), (h + (1 - popsF l[i].k))), ⟨73, [(3, .v (.int .i64 ((h + (1 - popsF l[i].k))))), (11, .list 5 (l.flatMap cO) l.length), (12, .v (.int .i64 l.length)), (13, .v (.int .i64 (((i + 1)) : Nat)))], []⟩, ?_, Wk.asS (n := 73) rfl (by repeat (first | exact List.Sublist.refl _ | apply List.Sublist.cons)) ⟨(by (repeat (first | exact look_hit | (apply look_at; focus (first | rfl | (simp; done) | (congr 2; omega))) | (apply look_miss; focus rfl))); done), (by (repeat (first | exact look_hit | (apply look_at; focus (first | rfl | (simp; done) | (congr 2; omega))) | (apply look_miss; focus rfl))); done), (by (repeat (first | exact look_hit | (apply look_at; focus (first | rfl | (simp; done) | (congr 2; omega))) | (apply look_miss; focus rfl))); done), (by (repeat (first | exact look_hit | (apply look_at; focus (first | rfl | (simp; done) | (congr 2; omega))) | (apply look_miss; focus rfl))); done), trivial⟩, (by omega), (by rw [hx]; exact exprL_ok hlt hok), (by omega), (by have := pops_bd l[i].k; omega), rfl⟩
                      first | omega | (simp only []; omega)
                · have hc5' := hc5
                  (try simp only [decide_eq_true_eq, decide_eq_false_iff_not, beq_iff_eq, bne_iff_ne, Bool.not_eq_true', Bool.not_eq_false', Bool.not_eq_true, Bool.not_eq_false, beq_eq_false_iff_ne, ne_eq, bne_eq_false_iff_eq, Bool.and_eq_true, Bool.or_eq_true, Bool.not_not, Bool.and_eq_false_iff, Bool.or_eq_false_iff, Int.not_lt, Int.not_le] at hc5')
                  have hnn : ¬ (l[i].k = 2 ∧ nameF l[i].nm ≠ 0) := by simp at hc5; simp [hc5]
                  refine CD.skip ?_
                  refine CD.seq ?_
                  refine CD.seq ?_
                  refine CD.region ?_
                  refine OD.still (wants_plain rfl) rfl (still_mv rfl ot) ?_
                  refine OD.still (wants_plain rfl) rfl (still_r1 (mk := fun y => Op.fieldAddr 52 y 0) rfl ot (by first | exact fa_ptr (off := 0) Tryd.runUnderlying52 rfl Tryd.sizeOf3 rfl | exact fa_iptr (off := 0) Tryd.runUnderlying52 rfl Tryd.sizeOf3 rfl)) ?_
                  refine OD.still (wants_plain rfl) rfl (still_r1 (mk := Op.load 3) rfl ot (by first | exact ld_blk (k := 0) rfl rfl Tryd.isAgg3 rfl | exact ld_fm cO_len Tryd.isAgg3 (by first | assumption | omega) rfl | exact ld_fm0 cO_len Tryd.isAgg3 (by first | assumption | omega) rfl | exact ld_row (k := 0) cO_len rfl rfl rfl Tryd.isAgg3 (by first | assumption | omega) rfl | exact ld_row0 (k := 0) cO_len rfl rfl rfl Tryd.isAgg3 (by first | assumption | omega) rfl | exact ld_i Tryd.isAgg3 rfl)) ?_
                  refine OD.callP (wants_plain rfl) rfl rfl rfl Tryd.call38 (pops_vp l[i].k) ⟨ot, trivial⟩ ?_
                  refine OD.still (wants_plain rfl) rfl (still_bin rfl ot ot bin_lss) ?_
                  refine OD.wk (Wk.as_ (n := 73) (l' := [(3, _), (5, _), (11, _), (12, _), (13, _), (63, _)]) (S' := [⟨b5, 52, 5, [_, _, _, _, _]⟩]) rfl rfl ⟨lk, lk, lk, lk, lk, lk, trivial⟩) ?_
                  refine OD.nil ?_
                  refine CD.cond ot (fun hc7 => ?_) (fun hc7 => ?_)
                  · have hc7' := hc7
                    (try simp only [decide_eq_true_eq, decide_eq_false_iff_not, beq_iff_eq, bne_iff_ne, Bool.not_eq_true', Bool.not_eq_false', Bool.not_eq_true, Bool.not_eq_false, beq_eq_false_iff_ne, ne_eq, bne_eq_false_iff_eq, Bool.and_eq_true, Bool.or_eq_true, Bool.not_not, Bool.and_eq_false_iff, Bool.or_eq_false_iff, Int.not_lt, Int.not_le] at hc7')
                    have hsh : h < popsF l[i].k := by simpa using hc7
                    have herr : opErr h l[i] = 7 := by unfold opErr; rw [if_neg hk1, if_neg (by rw [hlit]; simp), if_neg hform, if_neg hnn, if_pos hsh]
                    refine CD.seq ?_
                    refine CD.region ?_
                    refine OD.still (wants_plain rfl) rfl (still_as rfl opd_const) ?_
                    refine OD.wk (Wk.as_ (n := 73) (l' := [(2, _)]) (S' := [⟨b5, 52, 5, [_, _, _, _, _]⟩]) rfl rfl ⟨lk, trivial⟩) ?_
                    refine OD.nil ?_
                    refine CD.ret ?_
                    refine ⟨.inr rfl, _, [], List.nil_sublist _, ret_one Tryd.results21 (res_tmp (Nat.le_of_ble_eq_true rfl) lk), ?_⟩
                    refine ⟨vi ?_, rfl⟩
                    first | exact hf.symm | (rw [hf, hx, exprL_no hlt herr (by first | assumption | decide)]; done) | (rw [hf, hend, if_pos (by simpa using hc8)]; done) | (rw [hf, hend, if_neg (by simpa using hc8)]; done)
                  · have hc7' := hc7
                    (try simp only [decide_eq_true_eq, decide_eq_false_iff_not, beq_iff_eq, bne_iff_ne, Bool.not_eq_true', Bool.not_eq_false', Bool.not_eq_true, Bool.not_eq_false, beq_eq_false_iff_ne, ne_eq, bne_eq_false_iff_eq, Bool.and_eq_true, Bool.or_eq_true, Bool.not_not, Bool.and_eq_false_iff, Bool.or_eq_false_iff, Int.not_lt, Int.not_le] at hc7')
                    have hsh : ¬ h < popsF l[i].k := by simpa using hc7
                    have hok : opErr h l[i] = 0 := by unfold opErr; rw [if_neg hk1, if_neg (by rw [hlit]; simp), if_neg hform, if_neg hnn, if_neg hsh]
                    refine CD.skip ?_
                    refine CD.region ?_
                    refine OD.still (wants_plain rfl) rfl (still_mv rfl ot) ?_
                    refine OD.still (wants_plain rfl) rfl (still_r1 (mk := fun y => Op.fieldAddr 52 y 0) rfl ot (by first | exact fa_ptr (off := 0) Tryd.runUnderlying52 rfl Tryd.sizeOf3 rfl | exact fa_iptr (off := 0) Tryd.runUnderlying52 rfl Tryd.sizeOf3 rfl)) ?_
                    refine OD.still (wants_plain rfl) rfl (still_r1 (mk := Op.load 3) rfl ot (by first | exact ld_blk (k := 0) rfl rfl Tryd.isAgg3 rfl | exact ld_fm cO_len Tryd.isAgg3 (by first | assumption | omega) rfl | exact ld_fm0 cO_len Tryd.isAgg3 (by first | assumption | omega) rfl | exact ld_row (k := 0) cO_len rfl rfl rfl Tryd.isAgg3 (by first | assumption | omega) rfl | exact ld_row0 (k := 0) cO_len rfl rfl rfl Tryd.isAgg3 (by first | assumption | omega) rfl | exact ld_i Tryd.isAgg3 rfl)) ?_
                    refine OD.callP (wants_plain rfl) rfl rfl rfl Tryd.call38 (pops_vp l[i].k) ⟨ot, trivial⟩ ?_
                    refine OD.still (wants_plain rfl) rfl (still_bin rfl opd_const ot (bin_sub (wrap_i64 (by omega) (by omega)))) ?_
                    refine OD.still (wants_plain rfl) rfl (still_bin rfl ot ot (bin_add (wrap_i64 (by omega) (by omega)))) ?_
                    refine OD.still (wants_plain rfl) rfl (still_as rfl ot) ?_
                    refine OD.wk (Wk.as_ (n := 73) (l' := [(3, _), (11, _), (12, _), (13, _)]) (S' := [⟨b5, 52, 5, [_, _, _, _, _]⟩]) rfl rfl ⟨lk, lk, lk, lk, trivial⟩) ?_
                    refine OD.nil ?_
                    refine CD.region ?_
                    refine OD.still (wants_plain rfl) rfl (still_bin rfl ot opd_const (bin_add (wrap_i64 (by omega) (by omega)))) ?_
                    refine OD.still (wants_plain rfl) rfl (still_mv rfl ot) ?_
                    refine OD.wk (Wk.as_ (n := 73) (l' := [(3, _), (11, _), (12, _), (13, _)]) (S' := [⟨b5, 52, 5, [_, _, _, _, _]⟩]) rfl rfl ⟨lk, lk, lk, lk, trivial⟩) ?_
                    refine OD.nil ?_
                    refine ⟨((i + 1), (h + (1 - popsF l[i].k))), ⟨73, [(3, .v (.int .i64 ((h + (1 - popsF l[i].k))))), (11, .list 5 (l.flatMap cO) l.length), (12, .v (.int .i64 l.length)), (13, .v (.int .i64 (((i + 1)) : Nat)))], []⟩, ?_, Wk.asS (n := 73) rfl (by repeat (first | exact List.Sublist.refl _ | apply List.Sublist.cons)) ⟨(by (repeat (first | exact look_hit | (apply look_at; focus (first | rfl | (simp; done) | (congr 2; omega))) | (apply look_miss; focus rfl))); done), (by (repeat (first | exact look_hit | (apply look_at; focus (first | rfl | (simp; done) | (congr 2; omega))) | (apply look_miss; focus rfl))); done), (by (repeat (first | exact look_hit | (apply look_at; focus (first | rfl | (simp; done) | (congr 2; omega))) | (apply look_miss; focus rfl))); done), (by (repeat (first | exact look_hit | (apply look_at; focus (first | rfl | (simp; done) | (congr 2; omega))) | (apply look_miss; focus rfl))); done), trivial⟩, (by omega), (by rw [hx]; exact exprL_ok hlt hok), (by omega), (by have := pops_bd l[i].k; omega), rfl⟩
                    first | omega | (simp only []; omega)
    · have hc1' := hc1
      (try simp only [decide_eq_true_eq, decide_eq_false_iff_not, beq_iff_eq, bne_iff_ne, Bool.not_eq_true', Bool.not_eq_false', Bool.not_eq_true, Bool.not_eq_false, beq_eq_false_iff_ne, ne_eq, bne_eq_false_iff_eq, Bool.and_eq_true, Bool.or_eq_true, Bool.not_not, Bool.and_eq_false_iff, Bool.or_eq_false_iff, Int.not_lt, Int.not_le] at hc1')
      have hend := hx.trans (exprL_end (show l.length ≤ i by omega))
      refine CD.exit ?_
      refine CD.seq ?_
      refine CD.seq ?_
      refine CD.region ?_
      refine OD.still (wants_plain rfl) rfl (still_mv rfl ot) ?_
      refine OD.still (wants_plain rfl) rfl (still_bin rfl ot opd_const bin_neq) ?_
      refine OD.wk (Wk.as_ (n := 73) (l' := [(72, _)]) (S' := []) rfl rfl ⟨lk, trivial⟩) ?_
      refine OD.nil ?_
      refine CD.cond ot (fun hc8 => ?_) (fun hc8 => ?_)
      · have hc8' := hc8
        (try simp only [decide_eq_true_eq, decide_eq_false_iff_not, beq_iff_eq, bne_iff_ne, Bool.not_eq_true', Bool.not_eq_false', Bool.not_eq_true, Bool.not_eq_false, beq_eq_false_iff_ne, ne_eq, bne_eq_false_iff_eq, Bool.and_eq_true, Bool.or_eq_true, Bool.not_not, Bool.and_eq_false_iff, Bool.or_eq_false_iff, Int.not_lt, Int.not_le] at hc8')
        refine CD.seq ?_
        refine CD.region ?_
        refine OD.still (wants_plain rfl) rfl (still_as rfl opd_const) ?_
        refine OD.wk (Wk.as_ (n := 73) (l' := [(2, _)]) (S' := []) rfl rfl ⟨lk, trivial⟩) ?_
        refine OD.nil ?_
        refine CD.ret ?_
        refine ⟨.inr rfl, _, [], List.nil_sublist _, ret_one Tryd.results21 (res_tmp (Nat.le_of_ble_eq_true rfl) lk), ?_⟩
        refine ⟨vi ?_, rfl⟩
        first | exact hf.symm | (rw [hf, hx, exprL_no hlt herr (by first | assumption | decide)]; done) | (rw [hf, hend, if_pos (by simpa using hc8)]; done) | (rw [hf, hend, if_neg (by simpa using hc8)]; done)
      · have hc8' := hc8
        (try simp only [decide_eq_true_eq, decide_eq_false_iff_not, beq_iff_eq, bne_iff_ne, Bool.not_eq_true', Bool.not_eq_false', Bool.not_eq_true, Bool.not_eq_false, beq_eq_false_iff_ne, ne_eq, bne_eq_false_iff_eq, Bool.and_eq_true, Bool.or_eq_true, Bool.not_not, Bool.and_eq_false_iff, Bool.or_eq_false_iff, Int.not_lt, Int.not_le] at hc8')
        refine CD.skip ?_
        refine CD.seq ?_
        refine CD.region ?_
        refine OD.still (wants_plain rfl) rfl (still_as rfl opd_const) ?_
        refine OD.wk (Wk.as_ (n := 73) (l' := [(2, _)]) (S' := []) rfl rfl ⟨lk, trivial⟩) ?_
        refine OD.nil ?_
        refine CD.ret ?_
        refine ⟨.inr rfl, _, [], List.nil_sublist _, ret_one Tryd.results21 (res_tmp (Nat.le_of_ble_eq_true rfl) lk), ?_⟩
        refine ⟨vi ?_, rfl⟩
        first | exact hf.symm | (rw [hf, hx, exprL_no hlt herr (by first | assumption | decide)]; done) | (rw [hf, hend, if_pos (by simpa using hc8)]; done) | (rw [hf, hend, if_neg (by simpa using hc8)]; done)

end Go.Proofs.YtoemmoeedhllfaaDoor.Nm

namespace Go.Proofs.YtoemmoeedhllfaaDoor.Nm
open Go.RowKit V Pk Vl
set_option linter.unusedVariables false
set_option linter.unusedSimpArgs false

inductive Tw where
  | mk (k n : Int) (s : ByteArray) (ts : List Tw)
mutual
def Tw.cs : Tw → List D
  | .mk k n s ts => [.v (.int .i64 k), .v (.int .i64 n), .v (.string s), .list 4 (Tw.css ts) ts.length]
def Tw.css : List Tw → List D
  | [] => []
  | t :: r => t.cs ++ Tw.css r
end
theorem Tw.css_eq : ∀ ts : List Tw, Tw.css ts = ts.flatMap Tw.cs
  | [] => rfl
  | t :: r => by rw [Tw.css, Tw.css_eq r, List.flatMap_cons]
theorem Tw.cs_len (t : Tw) : t.cs.length = 4 := by cases t; rfl
mutual
def Tw.Ok : Tw → Prop
  | .mk k n s ts => (-9223372036854775808 ≤ k ∧ k ≤ 9223372036854775807) ∧ (-9223372036854775808 ≤ n ∧ n ≤ 9223372036854775807) ∧ s.size ≤ maxLen ∧ ts.length ≤ maxLen ∧ Tw.Oks ts
def Tw.Oks : List Tw → Prop
  | [] => True
  | t :: r => t.Ok ∧ Tw.Oks r
end
theorem Tw.oks_all : ∀ {ts : List Tw}, Tw.Oks ts → ∀ t ∈ ts, t.Ok
  | [], _, t, h => by cases h
  | a :: r, ⟨h1, h2⟩, t, h => by
    rcases List.mem_cons.1 h with rfl | h
    · exact h1
    · exact Tw.oks_all h2 t h
theorem Tw.all_oks : ∀ {ts : List Tw}, (∀ t ∈ ts, t.Ok) → Tw.Oks ts
  | [], _ => trivial
  | a :: r, h => ⟨h a List.mem_cons_self, Tw.all_oks fun t ht => h t (List.mem_cons_of_mem _ ht)⟩

def nameC (j : Int) : ByteArray := if j = 0 then ⟨#[105, 100]⟩ else if j = 1 then ⟨#[110]⟩ else if j = 2 then ⟨#[115]⟩ else ⟨#[98]⟩
def litV (n : Int) (s : ByteArray) : Vl := { valueF ⟨n, pickedF n 40 - 20, s⟩ with s := cutF (valueF ⟨n, pickedF n 40 - 20, s⟩).s 4 }
def litOp (n : Int) (s : ByteArray) : OpL := ⟨1, litV n s, ⟨#[]⟩⟩
def colOp (n : Int) : OpL := ⟨2, noVl, nameC (pickedF n 4)⟩
def bareOp (k : Int) : OpL := ⟨k, noVl, ⟨#[]⟩⟩
def leafOps (k n : Int) (s : ByteArray) : List OpL := if 1 + pickedF k 11 = 2 then [colOp n] else [litOp n s]
def opsAt : Nat → Tw → List OpL
  | 0, .mk k n s _ => leafOps k n s
  | r + 1, .mk k n s ts =>
    if 1 + pickedF k 11 = 1 then [litOp n s]
    else if 1 + pickedF k 11 = 2 then [colOp n]
    else if 1 + pickedF k 11 = 5 ∨ 1 + pickedF k 11 = 11 then (match ts[0]? with | some t => opsAt r t | none => leafOps n 0 s) ++ [bareOp (1 + pickedF k 11)]
    else ((match ts[0]? with | some t => opsAt r t | none => leafOps n 0 s) ++ (match ts[1]? with | some t => opsAt r t | none => leafOps n 1 s)) ++ [bareOp (1 + pickedF k 11)]
def subO (r : Nat) (ts : List Tw) (n : Int) (s : ByteArray) (i : Nat) : List OpL := match ts[i]? with | some t => opsAt r t | none => leafOps n i s
theorem leaf_len (k n : Int) (s : ByteArray) : (leafOps k n s).length = 1 := by unfold leafOps; split <;> rfl
theorem ops_len : ∀ (r : Nat) (t : Tw), 1 ≤ (opsAt r t).length ∧ (opsAt r t).length + 1 ≤ 2 ^ (r + 1)
  | 0, .mk k n s ts => by rw [opsAt, leaf_len]; exact ⟨by decide, by decide⟩
  | r + 1, .mk k n s ts => by
    have hsub : ∀ i : Nat, 1 ≤ (subO r ts n s i).length ∧ (subO r ts n s i).length + 1 ≤ 2 ^ (r + 1) := fun i => by
      unfold subO
      split
      · exact ops_len r _
      · rw [leaf_len]; exact ⟨by decide, by rw [Nat.pow_succ]; have := Nat.one_le_two_pow (n := r); omega⟩
    have h0 := hsub 0
    have h1 := hsub 1
    unfold subO at h0 h1
    have hp : 2 ^ (r + 1 + 1) = 2 ^ (r + 1) + 2 ^ (r + 1) := by rw [Nat.pow_succ]; omega
    rw [opsAt]
    simp only [Int.natCast_zero, Int.natCast_one] at h0 h1
    split
    · exact ⟨by simp, by simp; omega⟩
    · split
      · exact ⟨by simp, by simp; omega⟩
      · split <;> simp only [List.length_append, List.length_cons, List.length_nil] <;> omega
theorem sub_len (r : Nat) (ts : List Tw) (n : Int) (s : ByteArray) (i : Nat) : 1 ≤ (subO r ts n s i).length ∧ (subO r ts n s i).length + 1 ≤ 2 ^ (r + 1) := by
  unfold subO
  split
  · exact ops_len r _
  · rw [leaf_len]; exact ⟨by decide, by rw [Nat.pow_succ]; have := Nat.one_le_two_pow (n := r); omega⟩
theorem value_size (r : Vl) : (valueF r).s.size ≤ 10 := by
  unfold valueF noVl
  split
  · exact Nat.zero_le _
  · split
    · exact Nat.zero_le _
    · split
      · show (cutF r.s 10).size ≤ 10
        rw [cutF_size]; omega
      · decide
theorem name_at {j : Nat} (h : j < 4) : [D.v (.string ⟨#[105, 100]⟩), D.v (.string ⟨#[110]⟩), D.v (.string ⟨#[115]⟩), D.v (.string ⟨#[98]⟩)][j * 1]? = some (.v (.string (nameC (j : Int)))) := by
  match j, h with
  | 0, _ | 1, _ | 2, _ | 3, _ => rfl
variable {G : List (Nat × List Value)}
abbrev RetO (ls : List OpL) (r : D) (S : List Blk) : Prop := RetL cO 52 5 ls r S

theorem places52_Nm4 : ∀ w, ((#[{ name := "Kind", type := 3, offset := 0, embedded := false, tag := "", pkgPath := "", byteOffset := 0 }, { name := "Value", type := 30, offset := 1, embedded := false, tag := "", pkgPath := "", byteOffset := 8 }, { name := "Name", type := 9, offset := 4, embedded := false, tag := "", pkgPath := "", byteOffset := 40 }] : Array Field).mapM fun f => do pure (f.offset, ← sizeOf f.type) : Sem (Array (Nat × Nat))).run Tryd.prog w = .ok #[(0, 1), (1, 3), (4, 1)] w := fun w => by simp [Tryd.sizeOf3, Tryd.sizeOf30, Tryd.sizeOf9]

theorem places65_Nm4 : ∀ w, ((#[{ name := "Kind", type := 3, offset := 0, embedded := false, tag := "", pkgPath := "", byteOffset := 0 }, { name := "Int", type := 3, offset := 1, embedded := false, tag := "", pkgPath := "", byteOffset := 8 }, { name := "Text", type := 9, offset := 2, embedded := false, tag := "", pkgPath := "", byteOffset := 16 }] : Array Field).mapM fun f => do pure (f.offset, ← sizeOf f.type) : Sem (Array (Nat × Nat))).run Tryd.prog w = .ok #[(0, 1), (1, 1), (2, 1)] w := fun w => by simp [Tryd.sizeOf3, Tryd.sizeOf9]

set_option maxHeartbeats 4000000 in
set_option maxRecDepth 100000 in
theorem leaf_vc (k n d : Int) (s : ByteArray) (d4 : D) (h4 : solid d4 = true) (hk1 : -9223372036854775808 ≤ k) (hk2 : k ≤ 9223372036854775807) (hn1 : -9223372036854775808 ≤ n) (hn2 : n ≤ 9223372036854775807) (hs : s.size ≤ maxLen) (hd : 2 < d) : VC Tryd.prog G 36 [.agg [.v (.int .i64 k), .v (.int .i64 n), .v (.string s), d4], .v (.int .i64 d)] [] (RetO (leafOps k n s)) := by
  refine VC.body Tryd.func36 rfl Tryd.ntmps36 (Nat.le_of_ble_eq_true rfl) fun X0 w0 S00 => ?_
  have hpk := pickedF_bd k (by decide : (1 : Int) ≤ 11)
  have hpn := pickedF_bd n (by decide : (1 : Int) ≤ 40)
  have hpc := pickedF_bd n (by decide : (1 : Int) ≤ 4)
  obtain ⟨j, hj⟩ := Int.eq_ofNat_of_zero_le hpc.1
  have hj4 : j < 4 := by omega
  have hpkn := picked_vp G n 4 hn1 hn2 (by decide)
  rw [hj] at hpkn
  have hvo : (⟨n, pickedF n 40 - 20, s⟩ : Vl).Ok := ⟨hn1, hn2, by show _ ≤ pickedF n 40 - 20; omega, by show pickedF n 40 - 20 ≤ _; omega, hs⟩
  have hvs := value_size ⟨n, pickedF n 40 - 20, s⟩
  have hml : 100 ≤ maxLen := by decide
  obtain ⟨kk, hkk⟩ : ∃ kk : Int, 1 + pickedF k 11 = kk := ⟨_, rfl⟩
  refine CD.seq ?_
  refine CD.region ?_
  refine OD.box (ds := [_, _, _, _]) (wants_plain rfl) rfl rfl ot rfl rfl (fun b2 => ?_)
  refine OD.box (ds := [_]) (wants_plain rfl) rfl rfl ot rfl rfl (fun b3 => ?_)
  refine OD.still (wants_plain rfl) rfl (still_as rfl opd_const) ?_
  refine OD.wk (Wk.as_ (n := 69) (l' := [(2, _), (3, _)]) (S' := [⟨b3, 3, 1, [_]⟩, ⟨b2, 47, 4, [_, _, _, _]⟩]) rfl rfl ⟨lk, lk, trivial⟩) ?_
  refine OD.nil ?_
  refine CD.seq ?_
  refine CD.region ?_
  refine OD.still (wants_plain rfl) rfl (still_r1 (mk := fun y => Op.fieldAddr 47 y 0) rfl ot (by first | exact fa_ptr (off := 0) Tryd.runUnderlying47 rfl Tryd.sizeOf3 rfl | exact fa_iptr (off := 0) Tryd.runUnderlying47 rfl Tryd.sizeOf3 rfl)) ?_
  refine OD.still (wants_plain rfl) rfl (still_r1 (mk := Op.load 3) rfl ot (by first | exact ld_blk (k := 1) rfl rfl Tryd.isAgg3 rfl | exact ld_i Tryd.isAgg3 rfl)) ?_
  refine OD.callP (wants_plain rfl) rfl rfl rfl Tryd.call15 (picked_vp G k 11 hk1 hk2 (by decide)) ⟨ot, opd_const, trivial⟩ ?_
  refine OD.still (wants_plain rfl) rfl (still_bin (r := .int .i64 kk) rfl opd_const ot (bin_add (by rw [hkk]; exact wrap_i64 (by omega) (by omega)))) ?_
  refine OD.still (wants_plain rfl) rfl (still_as rfl ot) ?_
  refine OD.wk (Wk.as_ (n := 69) (l' := [(2, _), (3, _), (5, _)]) (S' := [⟨b3, 3, 1, [_]⟩, ⟨b2, 47, 4, [_, _, _, _]⟩]) rfl rfl ⟨lk, lk, lk, trivial⟩) ?_
  refine OD.nil ?_
  refine CD.seq ?_
  refine CD.seq ?_
  refine CD.region ?_
  refine OD.still (wants_plain rfl) rfl (still_r1 (mk := Op.load 3) rfl ot (by first | exact ld_blk (k := 0) rfl rfl Tryd.isAgg3 rfl | exact ld_i Tryd.isAgg3 rfl)) ?_
  refine OD.still (wants_plain rfl) rfl (still_bin rfl ot opd_const bin_gtr) ?_
  refine OD.still (wants_plain rfl) rfl (still_mv rfl ot) ?_
  refine OD.split (t := 14) lk (fun hg14 => ?_) (fun hg14 => ?_)
  · have hg14' := hg14; (try simp only [decide_eq_true_eq, decide_eq_false_iff_not, beq_iff_eq, bne_iff_ne, Bool.not_eq_true', Bool.not_eq_false', Bool.not_eq_true, Bool.not_eq_false, beq_eq_false_iff_ne, ne_eq, bne_eq_false_iff_eq, Bool.and_eq_true, Bool.or_eq_true, Bool.not_not] at hg14')
    refine OD.still (wants_T rfl rfl rfl lk (by first | rfl | assumption)) rfl (still_mv rfl ot) ?_
    refine OD.still (wants_T rfl rfl rfl lk (by first | rfl | assumption)) rfl (still_bin rfl ot opd_const bin_gtr) ?_
    refine OD.still (wants_plain rfl) rfl (still_pickT rfl ot (by first | rfl | assumption) ot) ?_
    refine OD.wk (Wk.as_ (n := 69) (l' := [(2, _), (3, _), (5, _), (17, _)]) (S' := [⟨b3, 3, 1, [_]⟩, ⟨b2, 47, 4, [_, _, _, _]⟩]) rfl rfl ⟨lk, lk, lk, lk, trivial⟩) ?_
    refine OD.nil ?_
    refine CD.cond ot (fun hc0 => ?_) (fun hc0 => ?_)
    · have hc0' := hc0
      (try simp only [decide_eq_true_eq, decide_eq_false_iff_not, beq_iff_eq, bne_iff_ne, Bool.not_eq_true', Bool.not_eq_false', Bool.not_eq_true, Bool.not_eq_false, beq_eq_false_iff_ne, ne_eq, bne_eq_false_iff_eq, Bool.and_eq_true, Bool.or_eq_true, Bool.not_not, Bool.and_eq_false_iff, Bool.or_eq_false_iff, Int.not_lt, Int.not_le] at hc0')
      refine CD.region ?_
      refine OD.still (wants_plain rfl) rfl (still_as rfl opd_const) ?_
      refine OD.wk (Wk.as_ (n := 69) (l' := [(2, _), (3, _), (5, _)]) (S' := [⟨b3, 3, 1, [_]⟩, ⟨b2, 47, 4, [_, _, _, _]⟩]) rfl rfl ⟨lk, lk, lk, trivial⟩) ?_
      refine OD.nil ?_
      refine CD.seq ?_
      refine CD.region ?_
      refine OD.still (wants_plain rfl) rfl (still_fn (ds := [_, _]) rfl ⟨ot, ot, trivial⟩) ?_
      refine OD.still (wants_plain rfl) rfl (still_as rfl ot) ?_
      refine OD.wk (Wk.as_ (n := 69) (l' := [(2, _), (5, _), (6, _)]) (S' := [⟨b3, 3, 1, [_]⟩, ⟨b2, 47, 4, [_, _, _, _]⟩]) rfl rfl ⟨lk, lk, lk, trivial⟩) ?_
      refine OD.nil ?_
      refine CD.seq ?_
      refine CD.seq ?_
      refine CD.region ?_
      refine OD.still (wants_plain rfl) rfl (still_mv rfl ot) ?_
      refine OD.wk (Wk.as_ (n := 69) (l' := [(2, _), (5, _), (6, _), (19, _)]) (S' := [⟨b3, 3, 1, [_]⟩, ⟨b2, 47, 4, [_, _, _, _]⟩]) rfl rfl ⟨lk, lk, lk, lk, trivial⟩) ?_
      refine OD.nil ?_
      refine CD.block ?_
      refine CD.seq ?_
      refine CD.region ?_
      refine OD.still (wants_plain rfl) rfl (still_bin rfl ot opd_const bin_eql) ?_
      refine OD.still (wants_plain rfl) rfl (still_as rfl ot) ?_
      refine OD.wk (Wk.as_ (n := 69) (l' := [(2, _), (5, _), (6, _), (19, _), (20, _)]) (S' := [⟨b3, 3, 1, [_]⟩, ⟨b2, 47, 4, [_, _, _, _]⟩]) rfl rfl ⟨lk, lk, lk, lk, lk, trivial⟩) ?_
      refine OD.nil ?_
      refine CD.condT ot (by first | rfl | assumption) ?_
      refine CD.seq ?_
      refine CD.draw (bks _) (by kernel_rfl) (fun _ h => h) ?_
      refine AD0.take (i := 0) rfl (by kernel_rfl) (by kernel_rfl) (by kernel_rfl) (by repeat (first | exact NP.body | apply NP.then | apply NP.cut | apply NP.inBlock | apply NP.round)) (wants_plain rfl) rfl (still_r1 (mk := fun y => Op.fieldAddr 47 y 1) rfl ot (by first | exact fa_ptr (off := 1) Tryd.runUnderlying47 rfl Tryd.sizeOf3 rfl | exact fa_iptr (off := 1) Tryd.runUnderlying47 rfl Tryd.sizeOf3 rfl)) (by exact trivial) ?_
      refine AD0.take (i := 1) rfl (by kernel_rfl) (by kernel_rfl) (by kernel_rfl) (by repeat (first | exact NP.body | apply NP.then | apply NP.cut | apply NP.inBlock | apply NP.round)) (wants_plain rfl) rfl (still_r1 (mk := Op.load 3) rfl ot (by first | exact ld_blk (k := 1) rfl rfl Tryd.isAgg3 rfl | exact ld_i Tryd.isAgg3 rfl)) (by first | exact trivial | exact safe_blk (k0 := 0) rfl rfl | exact safe_blk (k0 := 1) rfl rfl) ?_
      refine AD0.take (i := 2) rfl (by kernel_rfl) (by kernel_rfl) (by kernel_rfl) (by repeat (first | exact NP.body | apply NP.then | apply NP.cut | apply NP.inBlock | apply NP.round)) (wants_plain rfl) rfl (still_r1 (mk := fun y => Op.fieldAddr 47 y 1) rfl ot (by first | exact fa_ptr (off := 1) Tryd.runUnderlying47 rfl Tryd.sizeOf3 rfl | exact fa_iptr (off := 1) Tryd.runUnderlying47 rfl Tryd.sizeOf3 rfl)) (by exact trivial) ?_
      refine AD0.take (i := 3) rfl (by kernel_rfl) (by kernel_rfl) (by kernel_rfl) (by repeat (first | exact NP.body | apply NP.then | apply NP.cut | apply NP.inBlock | apply NP.round)) (wants_plain rfl) rfl (still_r1 (mk := Op.load 3) rfl ot (by first | exact ld_blk (k := 1) rfl rfl Tryd.isAgg3 rfl | exact ld_i Tryd.isAgg3 rfl)) (by first | exact trivial | exact safe_blk (k0 := 0) rfl rfl | exact safe_blk (k0 := 1) rfl rfl) ?_
      refine AD0.take (i := 6) rfl (by kernel_rfl) (by kernel_rfl) (by kernel_rfl) (by repeat (first | exact NP.body | apply NP.then | apply NP.cut | apply NP.inBlock | apply NP.round)) (wants_plain rfl) rfl (still_r1 (mk := fun y => Op.fieldAddr 47 y 2) rfl ot (by first | exact fa_ptr (off := 2) Tryd.runUnderlying47 rfl Tryd.sizeOf9 rfl | exact fa_iptr (off := 2) Tryd.runUnderlying47 rfl Tryd.sizeOf9 rfl)) (by exact trivial) ?_
      refine AD0.take (i := 7) rfl (by kernel_rfl) (by kernel_rfl) (by kernel_rfl) (by repeat (first | exact NP.body | apply NP.then | apply NP.cut | apply NP.inBlock | apply NP.round)) (wants_plain rfl) rfl (still_r1 (mk := Op.load 9) rfl ot (by first | exact ld_blk (k := 1) rfl rfl Tryd.isAgg9 rfl | exact ld_i Tryd.isAgg9 rfl)) (by first | exact trivial | exact safe_blk (k0 := 0) rfl rfl | exact safe_blk (k0 := 1) rfl rfl) ?_
      refine AD0.later rfl ?_
      refine AD.two (i := 4) (j := 10) (by kernel_rfl) ?_ ?_
      · skip
        refine AStep.callP rfl (wants_plain rfl) rfl rfl rfl Tryd.call15 (picked_vp G n 40 hn1 hn2 (by decide)) ⟨ot, opd_const, trivial⟩ ?_
        refine AD.take (i := 5) rfl (by kernel_rfl) (by kernel_rfl) (by kernel_rfl) (by repeat (first | exact NP.body | apply NP.then | apply NP.cut | apply NP.inBlock | apply NP.round)) (wants_plain rfl) rfl (still_bin rfl ot opd_const (bin_sub (wrap_i64 (by omega) (by omega)))) (by exact trivial) (by intro h; cases h) ?_
        refine AD.take (i := 8) rfl (by kernel_rfl) (by kernel_rfl) (by kernel_rfl) (by repeat (first | exact NP.body | apply NP.then | apply NP.cut | apply NP.inBlock | apply NP.round)) (wants_plain rfl) rfl (still_bld (pl := [(0, _), (1, _), (2, _)]) (ds := [_, _, _]) rfl Tryd.zeroValue65 Tryd.runUnderlying65 places65_Nm4 ⟨rfl, ot, rfl, ot, rfl, ot, trivial⟩ rfl rfl) (by exact trivial) (by intro h; cases h) ?_
        refine AD.two (i := 9) (j := 10) (by kernel_rfl) ?_ ?_
        · skip
          refine AStep.callP rfl (wants_plain rfl) rfl rfl rfl Tryd.call27 (value_vp ⟨n, pickedF n 40 - 20, s⟩ hvo) ⟨ot, trivial⟩ ?_
          refine AD.one (i := 10) (by kernel_rfl) ?_
          refine AStep.alloc (ds := [_, _, _]) rfl (wants_plain rfl) rfl rfl Tryd.zeroValue30 rfl (fun b7 => ?_)
          refine AD.one (i := 11) (by kernel_rfl) ?_
          refine AStep.store (k := 0) (cs' := [_, _, _]) rfl (wants_plain rfl) rfl rfl ot rfl rfl ot rfl rfl Tryd.sizeOf30 rfl rfl rfl (by intro b hb; simp [bks, St.put] at hb ⊢; try first | exact hb | simp [hb] | (rcases hb with hb | hb <;> simp [hb]) | (rcases hb with hb | hb | hb <;> simp [hb])) ?_
          refine AD.wk (y := ⟨69, [(5, _), (7, _)], [⟨b7, 30, 3, [_, _, _]⟩, ⟨b3, 3, 1, [_]⟩, ⟨b2, 47, 4, [_, _, _, _]⟩]⟩) (Wk.as_ rfl rfl ⟨lk, lk, trivial⟩) rfl ?_
          refine AD.done (by kernel_rfl) ?_
          refine CD.seq ?_
          refine CD.region ?_
          refine OD.still (wants_plain rfl) rfl (still_r1 (mk := fun y => Op.fieldAddr 30 y 2) rfl ot (by first | exact fa_ptr (off := 2) Tryd.runUnderlying30 rfl Tryd.sizeOf9 rfl | exact fa_iptr (off := 2) Tryd.runUnderlying30 rfl Tryd.sizeOf9 rfl)) ?_
          refine OD.still (wants_plain rfl) rfl (still_r1 (mk := Op.load 9) rfl ot (by first | exact ld_blk (k := 0) rfl rfl Tryd.isAgg9 rfl | exact ld_i Tryd.isAgg9 rfl)) ?_
          refine OD.callP (wants_plain rfl) rfl rfl rfl Tryd.call28 (cut_vp (valueF ⟨n, pickedF n 40 - 20, s⟩).s 4 (by omega)) ⟨ot, opd_const, trivial⟩ ?_
          refine OD.still (wants_plain rfl) rfl (still_r1 (mk := fun y => Op.fieldAddr 30 y 2) rfl ot (by first | exact fa_ptr (off := 2) Tryd.runUnderlying30 rfl Tryd.sizeOf9 rfl | exact fa_iptr (off := 2) Tryd.runUnderlying30 rfl Tryd.sizeOf9 rfl)) ?_
          refine OD.store (k := 0) (cs' := [_, _, _]) (wants_plain rfl) rfl rfl ot rfl rfl ot rfl rfl Tryd.sizeOf9 rfl rfl rfl ?_
          refine OD.wk (Wk.as_ (n := 69) (l' := [(5, _), (7, _)]) (S' := [⟨b7, 30, 3, [_, _, _]⟩, ⟨b3, 3, 1, [_]⟩, ⟨b2, 47, 4, [_, _, _, _]⟩]) rfl rfl ⟨lk, lk, trivial⟩) ?_
          refine OD.nil ?_
          refine CD.seq ?_
          refine CD.region ?_
          refine OD.still (wants_plain rfl) rfl (still_mv rfl ot) ?_
          refine OD.still (wants_plain rfl) rfl (still_r1 (mk := Op.load 30) rfl ot (by first | exact ld_blks (k := 0) (ds := [_, _, _]) rfl rfl Tryd.isAgg30 Tryd.sizeOf30 rfl rfl | exact ld_is (ds := [_, _, _]) Tryd.isAgg30 Tryd.sizeOf30 rfl rfl)) ?_
          refine OD.still (wants_plain rfl) rfl (still_bld (pl := [(0, _), (1, _)]) (ds := [_, _, _, _, _]) rfl Tryd.zeroValue52 Tryd.runUnderlying52 places52_Nm4 ⟨rfl, ot, rfl, ot, trivial⟩ rfl rfl) ?_
          refine OD.bldS (pl := [(0, _)]) (zvs := [.int .i64 0, .int .i64 0, .int .i64 0, .string ⟨#[]⟩, .string ⟨#[]⟩]) (ds := [_, _, _, _, _]) (wants_plain rfl) rfl rfl Tryd.zeroValue52 Tryd.runUnderlying48 Tryd.sizeOf52 rfl rfl (by kernel_rfl) ⟨rfl, ot, trivial⟩ rfl rfl (fun b39 => ?_)
          refine OD.still (wants_plain rfl) rfl (still_as rfl ot) ?_
          refine OD.wk (Wk.as_ (n := 69) (l' := [(4, _)]) (S' := [⟨b39, 52, 5, [_, _, _, _, _]⟩, ⟨b7, 30, 3, [_, _, _]⟩, ⟨b3, 3, 1, [_]⟩, ⟨b2, 47, 4, [_, _, _, _]⟩]) rfl rfl ⟨lk, trivial⟩) ?_
          refine OD.nil ?_
          refine CD.ret ?_
          refine ⟨.inr rfl, _, [_], (List.Sublist.cons_cons _ (List.nil_sublist _)), ret_one Tryd.results36 (res_tmp (Nat.le_of_ble_eq_true rfl) lk), ?_⟩
          first | exact RetL.cast (RetL.mk (g := cO) (e := 52) (sz := 5) (ls := [(⟨1, litV n s, ⟨#[]⟩⟩ : OpL)]) (ownL_row (ls := [(⟨1, litV n s, ⟨#[]⟩⟩ : OpL)]) (Nat.le_refl _) (show 1 ≤ maxLen by decide))) (by unfold leafOps litOp; rw [if_neg (by omega)]) | exact RetL.cast (RetL.mk (g := cO) (e := 52) (sz := 5) (ls := [(⟨kk, litV n s, ⟨#[]⟩⟩ : OpL)]) (ownL_row (ls := [(⟨kk, litV n s, ⟨#[]⟩⟩ : OpL)]) (Nat.le_refl _) (show 1 ≤ maxLen by decide))) (by unfold leafOps litOp; rw [if_neg (by omega), show kk = 1 by omega]) | exact RetL.cast (RetL.mk (g := cO) (e := 52) (sz := 5) (ls := [(⟨kk, noVl, nameC (j : Int)⟩ : OpL)]) (ownL_row (ls := [(⟨kk, noVl, nameC (j : Int)⟩ : OpL)]) (Nat.le_refl _) (show 1 ≤ maxLen by decide))) (by unfold leafOps colOp; rw [if_pos (by omega), hj, show kk = 2 by omega])
        · skip
          refine AStep.alloc (ds := [_, _, _]) rfl (wants_plain rfl) rfl rfl Tryd.zeroValue30 rfl (fun b7 => ?_)
          refine AD.one (i := 9) (by kernel_rfl) ?_
          refine AStep.callP rfl (wants_plain rfl) rfl rfl rfl Tryd.call27 (value_vp ⟨n, pickedF n 40 - 20, s⟩ hvo) ⟨ot, trivial⟩ ?_
          refine AD.one (i := 11) (by kernel_rfl) ?_
          refine AStep.store (k := 0) (cs' := [_, _, _]) rfl (wants_plain rfl) rfl rfl ot rfl rfl ot rfl rfl Tryd.sizeOf30 rfl rfl rfl (by intro b hb; simp [bks, St.put] at hb ⊢; try first | exact hb | simp [hb] | (rcases hb with hb | hb <;> simp [hb]) | (rcases hb with hb | hb | hb <;> simp [hb])) ?_
          refine AD.wk (y := ⟨69, [(5, _), (7, _)], [⟨b7, 30, 3, [_, _, _]⟩, ⟨b3, 3, 1, [_]⟩, ⟨b2, 47, 4, [_, _, _, _]⟩]⟩) (Wk.as_ rfl rfl ⟨lk, lk, trivial⟩) rfl ?_
          refine AD.done (by kernel_rfl) ?_
          refine CD.seq ?_
          refine CD.region ?_
          refine OD.still (wants_plain rfl) rfl (still_r1 (mk := fun y => Op.fieldAddr 30 y 2) rfl ot (by first | exact fa_ptr (off := 2) Tryd.runUnderlying30 rfl Tryd.sizeOf9 rfl | exact fa_iptr (off := 2) Tryd.runUnderlying30 rfl Tryd.sizeOf9 rfl)) ?_
          refine OD.still (wants_plain rfl) rfl (still_r1 (mk := Op.load 9) rfl ot (by first | exact ld_blk (k := 0) rfl rfl Tryd.isAgg9 rfl | exact ld_i Tryd.isAgg9 rfl)) ?_
          refine OD.callP (wants_plain rfl) rfl rfl rfl Tryd.call28 (cut_vp (valueF ⟨n, pickedF n 40 - 20, s⟩).s 4 (by omega)) ⟨ot, opd_const, trivial⟩ ?_
          refine OD.still (wants_plain rfl) rfl (still_r1 (mk := fun y => Op.fieldAddr 30 y 2) rfl ot (by first | exact fa_ptr (off := 2) Tryd.runUnderlying30 rfl Tryd.sizeOf9 rfl | exact fa_iptr (off := 2) Tryd.runUnderlying30 rfl Tryd.sizeOf9 rfl)) ?_
          refine OD.store (k := 0) (cs' := [_, _, _]) (wants_plain rfl) rfl rfl ot rfl rfl ot rfl rfl Tryd.sizeOf9 rfl rfl rfl ?_
          refine OD.wk (Wk.as_ (n := 69) (l' := [(5, _), (7, _)]) (S' := [⟨b7, 30, 3, [_, _, _]⟩, ⟨b3, 3, 1, [_]⟩, ⟨b2, 47, 4, [_, _, _, _]⟩]) rfl rfl ⟨lk, lk, trivial⟩) ?_
          refine OD.nil ?_
          refine CD.seq ?_
          refine CD.region ?_
          refine OD.still (wants_plain rfl) rfl (still_mv rfl ot) ?_
          refine OD.still (wants_plain rfl) rfl (still_r1 (mk := Op.load 30) rfl ot (by first | exact ld_blks (k := 0) (ds := [_, _, _]) rfl rfl Tryd.isAgg30 Tryd.sizeOf30 rfl rfl | exact ld_is (ds := [_, _, _]) Tryd.isAgg30 Tryd.sizeOf30 rfl rfl)) ?_
          refine OD.still (wants_plain rfl) rfl (still_bld (pl := [(0, _), (1, _)]) (ds := [_, _, _, _, _]) rfl Tryd.zeroValue52 Tryd.runUnderlying52 places52_Nm4 ⟨rfl, ot, rfl, ot, trivial⟩ rfl rfl) ?_
          refine OD.bldS (pl := [(0, _)]) (zvs := [.int .i64 0, .int .i64 0, .int .i64 0, .string ⟨#[]⟩, .string ⟨#[]⟩]) (ds := [_, _, _, _, _]) (wants_plain rfl) rfl rfl Tryd.zeroValue52 Tryd.runUnderlying48 Tryd.sizeOf52 rfl rfl (by kernel_rfl) ⟨rfl, ot, trivial⟩ rfl rfl (fun b39 => ?_)
          refine OD.still (wants_plain rfl) rfl (still_as rfl ot) ?_
          refine OD.wk (Wk.as_ (n := 69) (l' := [(4, _)]) (S' := [⟨b39, 52, 5, [_, _, _, _, _]⟩, ⟨b7, 30, 3, [_, _, _]⟩, ⟨b3, 3, 1, [_]⟩, ⟨b2, 47, 4, [_, _, _, _]⟩]) rfl rfl ⟨lk, trivial⟩) ?_
          refine OD.nil ?_
          refine CD.ret ?_
          refine ⟨.inr rfl, _, [_], (List.Sublist.cons_cons _ (List.nil_sublist _)), ret_one Tryd.results36 (res_tmp (Nat.le_of_ble_eq_true rfl) lk), ?_⟩
          first | exact RetL.cast (RetL.mk (g := cO) (e := 52) (sz := 5) (ls := [(⟨1, litV n s, ⟨#[]⟩⟩ : OpL)]) (ownL_row (ls := [(⟨1, litV n s, ⟨#[]⟩⟩ : OpL)]) (Nat.le_refl _) (show 1 ≤ maxLen by decide))) (by unfold leafOps litOp; rw [if_neg (by omega)]) | exact RetL.cast (RetL.mk (g := cO) (e := 52) (sz := 5) (ls := [(⟨kk, litV n s, ⟨#[]⟩⟩ : OpL)]) (ownL_row (ls := [(⟨kk, litV n s, ⟨#[]⟩⟩ : OpL)]) (Nat.le_refl _) (show 1 ≤ maxLen by decide))) (by unfold leafOps litOp; rw [if_neg (by omega), show kk = 1 by omega]) | exact RetL.cast (RetL.mk (g := cO) (e := 52) (sz := 5) (ls := [(⟨kk, noVl, nameC (j : Int)⟩ : OpL)]) (ownL_row (ls := [(⟨kk, noVl, nameC (j : Int)⟩ : OpL)]) (Nat.le_refl _) (show 1 ≤ maxLen by decide))) (by unfold leafOps colOp; rw [if_pos (by omega), hj, show kk = 2 by omega])
      · skip
        refine AStep.alloc (ds := [_, _, _]) rfl (wants_plain rfl) rfl rfl Tryd.zeroValue30 rfl (fun b7 => ?_)
        refine AD.one (i := 4) (by kernel_rfl) ?_
        refine AStep.callP rfl (wants_plain rfl) rfl rfl rfl Tryd.call15 (picked_vp G n 40 hn1 hn2 (by decide)) ⟨ot, opd_const, trivial⟩ ?_
        refine AD.take (i := 5) rfl (by kernel_rfl) (by kernel_rfl) (by kernel_rfl) (by repeat (first | exact NP.body | apply NP.then | apply NP.cut | apply NP.inBlock | apply NP.round)) (wants_plain rfl) rfl (still_bin rfl ot opd_const (bin_sub (wrap_i64 (by omega) (by omega)))) (by exact trivial) (by intro h; cases h) ?_
        refine AD.take (i := 8) rfl (by kernel_rfl) (by kernel_rfl) (by kernel_rfl) (by repeat (first | exact NP.body | apply NP.then | apply NP.cut | apply NP.inBlock | apply NP.round)) (wants_plain rfl) rfl (still_bld (pl := [(0, _), (1, _), (2, _)]) (ds := [_, _, _]) rfl Tryd.zeroValue65 Tryd.runUnderlying65 places65_Nm4 ⟨rfl, ot, rfl, ot, rfl, ot, trivial⟩ rfl rfl) (by exact trivial) (by intro h; cases h) ?_
        refine AD.one (i := 9) (by kernel_rfl) ?_
        refine AStep.callP rfl (wants_plain rfl) rfl rfl rfl Tryd.call27 (value_vp ⟨n, pickedF n 40 - 20, s⟩ hvo) ⟨ot, trivial⟩ ?_
        refine AD.one (i := 11) (by kernel_rfl) ?_
        refine AStep.store (k := 0) (cs' := [_, _, _]) rfl (wants_plain rfl) rfl rfl ot rfl rfl ot rfl rfl Tryd.sizeOf30 rfl rfl rfl (by intro b hb; simp [bks, St.put] at hb ⊢; try first | exact hb | simp [hb] | (rcases hb with hb | hb <;> simp [hb]) | (rcases hb with hb | hb | hb <;> simp [hb])) ?_
        refine AD.wk (y := ⟨69, [(5, _), (7, _)], [⟨b7, 30, 3, [_, _, _]⟩, ⟨b3, 3, 1, [_]⟩, ⟨b2, 47, 4, [_, _, _, _]⟩]⟩) (Wk.as_ rfl rfl ⟨lk, lk, trivial⟩) rfl ?_
        refine AD.done (by kernel_rfl) ?_
        refine CD.seq ?_
        refine CD.region ?_
        refine OD.still (wants_plain rfl) rfl (still_r1 (mk := fun y => Op.fieldAddr 30 y 2) rfl ot (by first | exact fa_ptr (off := 2) Tryd.runUnderlying30 rfl Tryd.sizeOf9 rfl | exact fa_iptr (off := 2) Tryd.runUnderlying30 rfl Tryd.sizeOf9 rfl)) ?_
        refine OD.still (wants_plain rfl) rfl (still_r1 (mk := Op.load 9) rfl ot (by first | exact ld_blk (k := 0) rfl rfl Tryd.isAgg9 rfl | exact ld_i Tryd.isAgg9 rfl)) ?_
        refine OD.callP (wants_plain rfl) rfl rfl rfl Tryd.call28 (cut_vp (valueF ⟨n, pickedF n 40 - 20, s⟩).s 4 (by omega)) ⟨ot, opd_const, trivial⟩ ?_
        refine OD.still (wants_plain rfl) rfl (still_r1 (mk := fun y => Op.fieldAddr 30 y 2) rfl ot (by first | exact fa_ptr (off := 2) Tryd.runUnderlying30 rfl Tryd.sizeOf9 rfl | exact fa_iptr (off := 2) Tryd.runUnderlying30 rfl Tryd.sizeOf9 rfl)) ?_
        refine OD.store (k := 0) (cs' := [_, _, _]) (wants_plain rfl) rfl rfl ot rfl rfl ot rfl rfl Tryd.sizeOf9 rfl rfl rfl ?_
        refine OD.wk (Wk.as_ (n := 69) (l' := [(5, _), (7, _)]) (S' := [⟨b7, 30, 3, [_, _, _]⟩, ⟨b3, 3, 1, [_]⟩, ⟨b2, 47, 4, [_, _, _, _]⟩]) rfl rfl ⟨lk, lk, trivial⟩) ?_
        refine OD.nil ?_
        refine CD.seq ?_
        refine CD.region ?_
        refine OD.still (wants_plain rfl) rfl (still_mv rfl ot) ?_
        refine OD.still (wants_plain rfl) rfl (still_r1 (mk := Op.load 30) rfl ot (by first | exact ld_blks (k := 0) (ds := [_, _, _]) rfl rfl Tryd.isAgg30 Tryd.sizeOf30 rfl rfl | exact ld_is (ds := [_, _, _]) Tryd.isAgg30 Tryd.sizeOf30 rfl rfl)) ?_
        refine OD.still (wants_plain rfl) rfl (still_bld (pl := [(0, _), (1, _)]) (ds := [_, _, _, _, _]) rfl Tryd.zeroValue52 Tryd.runUnderlying52 places52_Nm4 ⟨rfl, ot, rfl, ot, trivial⟩ rfl rfl) ?_
        refine OD.bldS (pl := [(0, _)]) (zvs := [.int .i64 0, .int .i64 0, .int .i64 0, .string ⟨#[]⟩, .string ⟨#[]⟩]) (ds := [_, _, _, _, _]) (wants_plain rfl) rfl rfl Tryd.zeroValue52 Tryd.runUnderlying48 Tryd.sizeOf52 rfl rfl (by kernel_rfl) ⟨rfl, ot, trivial⟩ rfl rfl (fun b39 => ?_)
        refine OD.still (wants_plain rfl) rfl (still_as rfl ot) ?_
        refine OD.wk (Wk.as_ (n := 69) (l' := [(4, _)]) (S' := [⟨b39, 52, 5, [_, _, _, _, _]⟩, ⟨b7, 30, 3, [_, _, _]⟩, ⟨b3, 3, 1, [_]⟩, ⟨b2, 47, 4, [_, _, _, _]⟩]) rfl rfl ⟨lk, trivial⟩) ?_
        refine OD.nil ?_
        refine CD.ret ?_
        refine ⟨.inr rfl, _, [_], (List.Sublist.cons_cons _ (List.nil_sublist _)), ret_one Tryd.results36 (res_tmp (Nat.le_of_ble_eq_true rfl) lk), ?_⟩
        first | exact RetL.cast (RetL.mk (g := cO) (e := 52) (sz := 5) (ls := [(⟨1, litV n s, ⟨#[]⟩⟩ : OpL)]) (ownL_row (ls := [(⟨1, litV n s, ⟨#[]⟩⟩ : OpL)]) (Nat.le_refl _) (show 1 ≤ maxLen by decide))) (by unfold leafOps litOp; rw [if_neg (by omega)]) | exact RetL.cast (RetL.mk (g := cO) (e := 52) (sz := 5) (ls := [(⟨kk, litV n s, ⟨#[]⟩⟩ : OpL)]) (ownL_row (ls := [(⟨kk, litV n s, ⟨#[]⟩⟩ : OpL)]) (Nat.le_refl _) (show 1 ≤ maxLen by decide))) (by unfold leafOps litOp; rw [if_neg (by omega), show kk = 1 by omega]) | exact RetL.cast (RetL.mk (g := cO) (e := 52) (sz := 5) (ls := [(⟨kk, noVl, nameC (j : Int)⟩ : OpL)]) (ownL_row (ls := [(⟨kk, noVl, nameC (j : Int)⟩ : OpL)]) (Nat.le_refl _) (show 1 ≤ maxLen by decide))) (by unfold leafOps colOp; rw [if_pos (by omega), hj, show kk = 2 by omega])
    · have hc0' := hc0
      (try simp only [decide_eq_true_eq, decide_eq_false_iff_not, beq_iff_eq, bne_iff_ne, Bool.not_eq_true', Bool.not_eq_false', Bool.not_eq_true, Bool.not_eq_false, beq_eq_false_iff_ne, ne_eq, bne_eq_false_iff_eq, Bool.and_eq_true, Bool.or_eq_true, Bool.not_not, Bool.and_eq_false_iff, Bool.or_eq_false_iff, Int.not_lt, Int.not_le] at hc0')
      refine CD.skip ?_
      refine CD.seq ?_
      refine CD.region ?_
      refine OD.still (wants_plain rfl) rfl (still_fn (ds := [_, _]) rfl ⟨ot, ot, trivial⟩) ?_
      refine OD.still (wants_plain rfl) rfl (still_as rfl ot) ?_
      refine OD.wk (Wk.as_ (n := 69) (l' := [(2, _), (5, _), (6, _)]) (S' := [⟨b3, 3, 1, [_]⟩, ⟨b2, 47, 4, [_, _, _, _]⟩]) rfl rfl ⟨lk, lk, lk, trivial⟩) ?_
      refine OD.nil ?_
      refine CD.seq ?_
      refine CD.seq ?_
      refine CD.region ?_
      refine OD.still (wants_plain rfl) rfl (still_mv rfl ot) ?_
      refine OD.wk (Wk.as_ (n := 69) (l' := [(2, _), (5, _), (6, _), (19, _)]) (S' := [⟨b3, 3, 1, [_]⟩, ⟨b2, 47, 4, [_, _, _, _]⟩]) rfl rfl ⟨lk, lk, lk, lk, trivial⟩) ?_
      refine OD.nil ?_
      refine CD.block ?_
      refine CD.seq ?_
      refine CD.region ?_
      refine OD.still (wants_plain rfl) rfl (still_bin rfl ot opd_const bin_eql) ?_
      refine OD.still (wants_plain rfl) rfl (still_as rfl ot) ?_
      refine OD.wk (Wk.as_ (n := 69) (l' := [(2, _), (5, _), (6, _), (19, _), (20, _)]) (S' := [⟨b3, 3, 1, [_]⟩, ⟨b2, 47, 4, [_, _, _, _]⟩]) rfl rfl ⟨lk, lk, lk, lk, lk, trivial⟩) ?_
      refine OD.nil ?_
      refine CD.cond ot (fun hc1 => ?_) (fun hc1 => ?_)
      · have hc1' := hc1
        (try simp only [decide_eq_true_eq, decide_eq_false_iff_not, beq_iff_eq, bne_iff_ne, Bool.not_eq_true', Bool.not_eq_false', Bool.not_eq_true, Bool.not_eq_false, beq_eq_false_iff_ne, ne_eq, bne_eq_false_iff_eq, Bool.and_eq_true, Bool.or_eq_true, Bool.not_not, Bool.and_eq_false_iff, Bool.or_eq_false_iff, Int.not_lt, Int.not_le] at hc1')
        refine CD.seq ?_
        refine CD.draw (bks _) (by kernel_rfl) (fun _ h => h) ?_
        refine AD0.take (i := 0) rfl (by kernel_rfl) (by kernel_rfl) (by kernel_rfl) (by repeat (first | exact NP.body | apply NP.then | apply NP.cut | apply NP.inBlock | apply NP.round)) (wants_plain rfl) rfl (still_r1 (mk := fun y => Op.fieldAddr 47 y 1) rfl ot (by first | exact fa_ptr (off := 1) Tryd.runUnderlying47 rfl Tryd.sizeOf3 rfl | exact fa_iptr (off := 1) Tryd.runUnderlying47 rfl Tryd.sizeOf3 rfl)) (by exact trivial) ?_
        refine AD0.take (i := 1) rfl (by kernel_rfl) (by kernel_rfl) (by kernel_rfl) (by repeat (first | exact NP.body | apply NP.then | apply NP.cut | apply NP.inBlock | apply NP.round)) (wants_plain rfl) rfl (still_r1 (mk := Op.load 3) rfl ot (by first | exact ld_blk (k := 1) rfl rfl Tryd.isAgg3 rfl | exact ld_i Tryd.isAgg3 rfl)) (by first | exact trivial | exact safe_blk (k0 := 0) rfl rfl | exact safe_blk (k0 := 1) rfl rfl) ?_
        refine AD0.take (i := 2) rfl (by kernel_rfl) (by kernel_rfl) (by kernel_rfl) (by repeat (first | exact NP.body | apply NP.then | apply NP.cut | apply NP.inBlock | apply NP.round)) (wants_plain rfl) rfl (still_r1 (mk := fun y => Op.fieldAddr 47 y 1) rfl ot (by first | exact fa_ptr (off := 1) Tryd.runUnderlying47 rfl Tryd.sizeOf3 rfl | exact fa_iptr (off := 1) Tryd.runUnderlying47 rfl Tryd.sizeOf3 rfl)) (by exact trivial) ?_
        refine AD0.take (i := 3) rfl (by kernel_rfl) (by kernel_rfl) (by kernel_rfl) (by repeat (first | exact NP.body | apply NP.then | apply NP.cut | apply NP.inBlock | apply NP.round)) (wants_plain rfl) rfl (still_r1 (mk := Op.load 3) rfl ot (by first | exact ld_blk (k := 1) rfl rfl Tryd.isAgg3 rfl | exact ld_i Tryd.isAgg3 rfl)) (by first | exact trivial | exact safe_blk (k0 := 0) rfl rfl | exact safe_blk (k0 := 1) rfl rfl) ?_
        refine AD0.take (i := 6) rfl (by kernel_rfl) (by kernel_rfl) (by kernel_rfl) (by repeat (first | exact NP.body | apply NP.then | apply NP.cut | apply NP.inBlock | apply NP.round)) (wants_plain rfl) rfl (still_r1 (mk := fun y => Op.fieldAddr 47 y 2) rfl ot (by first | exact fa_ptr (off := 2) Tryd.runUnderlying47 rfl Tryd.sizeOf9 rfl | exact fa_iptr (off := 2) Tryd.runUnderlying47 rfl Tryd.sizeOf9 rfl)) (by exact trivial) ?_
        refine AD0.take (i := 7) rfl (by kernel_rfl) (by kernel_rfl) (by kernel_rfl) (by repeat (first | exact NP.body | apply NP.then | apply NP.cut | apply NP.inBlock | apply NP.round)) (wants_plain rfl) rfl (still_r1 (mk := Op.load 9) rfl ot (by first | exact ld_blk (k := 1) rfl rfl Tryd.isAgg9 rfl | exact ld_i Tryd.isAgg9 rfl)) (by first | exact trivial | exact safe_blk (k0 := 0) rfl rfl | exact safe_blk (k0 := 1) rfl rfl) ?_
        refine AD0.later rfl ?_
        refine AD.two (i := 4) (j := 10) (by kernel_rfl) ?_ ?_
        · skip
          refine AStep.callP rfl (wants_plain rfl) rfl rfl rfl Tryd.call15 (picked_vp G n 40 hn1 hn2 (by decide)) ⟨ot, opd_const, trivial⟩ ?_
          refine AD.take (i := 5) rfl (by kernel_rfl) (by kernel_rfl) (by kernel_rfl) (by repeat (first | exact NP.body | apply NP.then | apply NP.cut | apply NP.inBlock | apply NP.round)) (wants_plain rfl) rfl (still_bin rfl ot opd_const (bin_sub (wrap_i64 (by omega) (by omega)))) (by exact trivial) (by intro h; cases h) ?_
          refine AD.take (i := 8) rfl (by kernel_rfl) (by kernel_rfl) (by kernel_rfl) (by repeat (first | exact NP.body | apply NP.then | apply NP.cut | apply NP.inBlock | apply NP.round)) (wants_plain rfl) rfl (still_bld (pl := [(0, _), (1, _), (2, _)]) (ds := [_, _, _]) rfl Tryd.zeroValue65 Tryd.runUnderlying65 places65_Nm4 ⟨rfl, ot, rfl, ot, rfl, ot, trivial⟩ rfl rfl) (by exact trivial) (by intro h; cases h) ?_
          refine AD.two (i := 9) (j := 10) (by kernel_rfl) ?_ ?_
          · skip
            refine AStep.callP rfl (wants_plain rfl) rfl rfl rfl Tryd.call27 (value_vp ⟨n, pickedF n 40 - 20, s⟩ hvo) ⟨ot, trivial⟩ ?_
            refine AD.one (i := 10) (by kernel_rfl) ?_
            refine AStep.alloc (ds := [_, _, _]) rfl (wants_plain rfl) rfl rfl Tryd.zeroValue30 rfl (fun b7 => ?_)
            refine AD.one (i := 11) (by kernel_rfl) ?_
            refine AStep.store (k := 0) (cs' := [_, _, _]) rfl (wants_plain rfl) rfl rfl ot rfl rfl ot rfl rfl Tryd.sizeOf30 rfl rfl rfl (by intro b hb; simp [bks, St.put] at hb ⊢; try first | exact hb | simp [hb] | (rcases hb with hb | hb <;> simp [hb]) | (rcases hb with hb | hb | hb <;> simp [hb])) ?_
            refine AD.wk (y := ⟨69, [(5, _), (7, _)], [⟨b7, 30, 3, [_, _, _]⟩, ⟨b3, 3, 1, [_]⟩, ⟨b2, 47, 4, [_, _, _, _]⟩]⟩) (Wk.as_ rfl rfl ⟨lk, lk, trivial⟩) rfl ?_
            refine AD.done (by kernel_rfl) ?_
            refine CD.seq ?_
            refine CD.region ?_
            refine OD.still (wants_plain rfl) rfl (still_r1 (mk := fun y => Op.fieldAddr 30 y 2) rfl ot (by first | exact fa_ptr (off := 2) Tryd.runUnderlying30 rfl Tryd.sizeOf9 rfl | exact fa_iptr (off := 2) Tryd.runUnderlying30 rfl Tryd.sizeOf9 rfl)) ?_
            refine OD.still (wants_plain rfl) rfl (still_r1 (mk := Op.load 9) rfl ot (by first | exact ld_blk (k := 0) rfl rfl Tryd.isAgg9 rfl | exact ld_i Tryd.isAgg9 rfl)) ?_
            refine OD.callP (wants_plain rfl) rfl rfl rfl Tryd.call28 (cut_vp (valueF ⟨n, pickedF n 40 - 20, s⟩).s 4 (by omega)) ⟨ot, opd_const, trivial⟩ ?_
            refine OD.still (wants_plain rfl) rfl (still_r1 (mk := fun y => Op.fieldAddr 30 y 2) rfl ot (by first | exact fa_ptr (off := 2) Tryd.runUnderlying30 rfl Tryd.sizeOf9 rfl | exact fa_iptr (off := 2) Tryd.runUnderlying30 rfl Tryd.sizeOf9 rfl)) ?_
            refine OD.store (k := 0) (cs' := [_, _, _]) (wants_plain rfl) rfl rfl ot rfl rfl ot rfl rfl Tryd.sizeOf9 rfl rfl rfl ?_
            refine OD.wk (Wk.as_ (n := 69) (l' := [(5, _), (7, _)]) (S' := [⟨b7, 30, 3, [_, _, _]⟩, ⟨b3, 3, 1, [_]⟩, ⟨b2, 47, 4, [_, _, _, _]⟩]) rfl rfl ⟨lk, lk, trivial⟩) ?_
            refine OD.nil ?_
            refine CD.seq ?_
            refine CD.region ?_
            refine OD.still (wants_plain rfl) rfl (still_mv rfl ot) ?_
            refine OD.still (wants_plain rfl) rfl (still_r1 (mk := Op.load 30) rfl ot (by first | exact ld_blks (k := 0) (ds := [_, _, _]) rfl rfl Tryd.isAgg30 Tryd.sizeOf30 rfl rfl | exact ld_is (ds := [_, _, _]) Tryd.isAgg30 Tryd.sizeOf30 rfl rfl)) ?_
            refine OD.still (wants_plain rfl) rfl (still_bld (pl := [(0, _), (1, _)]) (ds := [_, _, _, _, _]) rfl Tryd.zeroValue52 Tryd.runUnderlying52 places52_Nm4 ⟨rfl, ot, rfl, ot, trivial⟩ rfl rfl) ?_
            refine OD.bldS (pl := [(0, _)]) (zvs := [.int .i64 0, .int .i64 0, .int .i64 0, .string ⟨#[]⟩, .string ⟨#[]⟩]) (ds := [_, _, _, _, _]) (wants_plain rfl) rfl rfl Tryd.zeroValue52 Tryd.runUnderlying48 Tryd.sizeOf52 rfl rfl (by kernel_rfl) ⟨rfl, ot, trivial⟩ rfl rfl (fun b39 => ?_)
            refine OD.still (wants_plain rfl) rfl (still_as rfl ot) ?_
            refine OD.wk (Wk.as_ (n := 69) (l' := [(4, _)]) (S' := [⟨b39, 52, 5, [_, _, _, _, _]⟩, ⟨b7, 30, 3, [_, _, _]⟩, ⟨b3, 3, 1, [_]⟩, ⟨b2, 47, 4, [_, _, _, _]⟩]) rfl rfl ⟨lk, trivial⟩) ?_
            refine OD.nil ?_
            refine CD.ret ?_
            refine ⟨.inr rfl, _, [_], (List.Sublist.cons_cons _ (List.nil_sublist _)), ret_one Tryd.results36 (res_tmp (Nat.le_of_ble_eq_true rfl) lk), ?_⟩
            first | exact RetL.cast (RetL.mk (g := cO) (e := 52) (sz := 5) (ls := [(⟨1, litV n s, ⟨#[]⟩⟩ : OpL)]) (ownL_row (ls := [(⟨1, litV n s, ⟨#[]⟩⟩ : OpL)]) (Nat.le_refl _) (show 1 ≤ maxLen by decide))) (by unfold leafOps litOp; rw [if_neg (by omega)]) | exact RetL.cast (RetL.mk (g := cO) (e := 52) (sz := 5) (ls := [(⟨kk, litV n s, ⟨#[]⟩⟩ : OpL)]) (ownL_row (ls := [(⟨kk, litV n s, ⟨#[]⟩⟩ : OpL)]) (Nat.le_refl _) (show 1 ≤ maxLen by decide))) (by unfold leafOps litOp; rw [if_neg (by omega), show kk = 1 by omega]) | exact RetL.cast (RetL.mk (g := cO) (e := 52) (sz := 5) (ls := [(⟨kk, noVl, nameC (j : Int)⟩ : OpL)]) (ownL_row (ls := [(⟨kk, noVl, nameC (j : Int)⟩ : OpL)]) (Nat.le_refl _) (show 1 ≤ maxLen by decide))) (by unfold leafOps colOp; rw [if_pos (by omega), hj, show kk = 2 by omega])
          · skip
            refine AStep.alloc (ds := [_, _, _]) rfl (wants_plain rfl) rfl rfl Tryd.zeroValue30 rfl (fun b7 => ?_)
            refine AD.one (i := 9) (by kernel_rfl) ?_
            refine AStep.callP rfl (wants_plain rfl) rfl rfl rfl Tryd.call27 (value_vp ⟨n, pickedF n 40 - 20, s⟩ hvo) ⟨ot, trivial⟩ ?_
            refine AD.one (i := 11) (by kernel_rfl) ?_
            refine AStep.store (k := 0) (cs' := [_, _, _]) rfl (wants_plain rfl) rfl rfl ot rfl rfl ot rfl rfl Tryd.sizeOf30 rfl rfl rfl (by intro b hb; simp [bks, St.put] at hb ⊢; try first | exact hb | simp [hb] | (rcases hb with hb | hb <;> simp [hb]) | (rcases hb with hb | hb | hb <;> simp [hb])) ?_
            refine AD.wk (y := ⟨69, [(5, _), (7, _)], [⟨b7, 30, 3, [_, _, _]⟩, ⟨b3, 3, 1, [_]⟩, ⟨b2, 47, 4, [_, _, _, _]⟩]⟩) (Wk.as_ rfl rfl ⟨lk, lk, trivial⟩) rfl ?_
            refine AD.done (by kernel_rfl) ?_
            refine CD.seq ?_
            refine CD.region ?_
            refine OD.still (wants_plain rfl) rfl (still_r1 (mk := fun y => Op.fieldAddr 30 y 2) rfl ot (by first | exact fa_ptr (off := 2) Tryd.runUnderlying30 rfl Tryd.sizeOf9 rfl | exact fa_iptr (off := 2) Tryd.runUnderlying30 rfl Tryd.sizeOf9 rfl)) ?_
            refine OD.still (wants_plain rfl) rfl (still_r1 (mk := Op.load 9) rfl ot (by first | exact ld_blk (k := 0) rfl rfl Tryd.isAgg9 rfl | exact ld_i Tryd.isAgg9 rfl)) ?_
            refine OD.callP (wants_plain rfl) rfl rfl rfl Tryd.call28 (cut_vp (valueF ⟨n, pickedF n 40 - 20, s⟩).s 4 (by omega)) ⟨ot, opd_const, trivial⟩ ?_
            refine OD.still (wants_plain rfl) rfl (still_r1 (mk := fun y => Op.fieldAddr 30 y 2) rfl ot (by first | exact fa_ptr (off := 2) Tryd.runUnderlying30 rfl Tryd.sizeOf9 rfl | exact fa_iptr (off := 2) Tryd.runUnderlying30 rfl Tryd.sizeOf9 rfl)) ?_
            refine OD.store (k := 0) (cs' := [_, _, _]) (wants_plain rfl) rfl rfl ot rfl rfl ot rfl rfl Tryd.sizeOf9 rfl rfl rfl ?_
            refine OD.wk (Wk.as_ (n := 69) (l' := [(5, _), (7, _)]) (S' := [⟨b7, 30, 3, [_, _, _]⟩, ⟨b3, 3, 1, [_]⟩, ⟨b2, 47, 4, [_, _, _, _]⟩]) rfl rfl ⟨lk, lk, trivial⟩) ?_
            refine OD.nil ?_
            refine CD.seq ?_
            refine CD.region ?_
            refine OD.still (wants_plain rfl) rfl (still_mv rfl ot) ?_
            refine OD.still (wants_plain rfl) rfl (still_r1 (mk := Op.load 30) rfl ot (by first | exact ld_blks (k := 0) (ds := [_, _, _]) rfl rfl Tryd.isAgg30 Tryd.sizeOf30 rfl rfl | exact ld_is (ds := [_, _, _]) Tryd.isAgg30 Tryd.sizeOf30 rfl rfl)) ?_
            refine OD.still (wants_plain rfl) rfl (still_bld (pl := [(0, _), (1, _)]) (ds := [_, _, _, _, _]) rfl Tryd.zeroValue52 Tryd.runUnderlying52 places52_Nm4 ⟨rfl, ot, rfl, ot, trivial⟩ rfl rfl) ?_
            refine OD.bldS (pl := [(0, _)]) (zvs := [.int .i64 0, .int .i64 0, .int .i64 0, .string ⟨#[]⟩, .string ⟨#[]⟩]) (ds := [_, _, _, _, _]) (wants_plain rfl) rfl rfl Tryd.zeroValue52 Tryd.runUnderlying48 Tryd.sizeOf52 rfl rfl (by kernel_rfl) ⟨rfl, ot, trivial⟩ rfl rfl (fun b39 => ?_)
            refine OD.still (wants_plain rfl) rfl (still_as rfl ot) ?_
            refine OD.wk (Wk.as_ (n := 69) (l' := [(4, _)]) (S' := [⟨b39, 52, 5, [_, _, _, _, _]⟩, ⟨b7, 30, 3, [_, _, _]⟩, ⟨b3, 3, 1, [_]⟩, ⟨b2, 47, 4, [_, _, _, _]⟩]) rfl rfl ⟨lk, trivial⟩) ?_
            refine OD.nil ?_
            refine CD.ret ?_
            refine ⟨.inr rfl, _, [_], (List.Sublist.cons_cons _ (List.nil_sublist _)), ret_one Tryd.results36 (res_tmp (Nat.le_of_ble_eq_true rfl) lk), ?_⟩
            first | exact RetL.cast (RetL.mk (g := cO) (e := 52) (sz := 5) (ls := [(⟨1, litV n s, ⟨#[]⟩⟩ : OpL)]) (ownL_row (ls := [(⟨1, litV n s, ⟨#[]⟩⟩ : OpL)]) (Nat.le_refl _) (show 1 ≤ maxLen by decide))) (by unfold leafOps litOp; rw [if_neg (by omega)]) | exact RetL.cast (RetL.mk (g := cO) (e := 52) (sz := 5) (ls := [(⟨kk, litV n s, ⟨#[]⟩⟩ : OpL)]) (ownL_row (ls := [(⟨kk, litV n s, ⟨#[]⟩⟩ : OpL)]) (Nat.le_refl _) (show 1 ≤ maxLen by decide))) (by unfold leafOps litOp; rw [if_neg (by omega), show kk = 1 by omega]) | exact RetL.cast (RetL.mk (g := cO) (e := 52) (sz := 5) (ls := [(⟨kk, noVl, nameC (j : Int)⟩ : OpL)]) (ownL_row (ls := [(⟨kk, noVl, nameC (j : Int)⟩ : OpL)]) (Nat.le_refl _) (show 1 ≤ maxLen by decide))) (by unfold leafOps colOp; rw [if_pos (by omega), hj, show kk = 2 by omega])
        · skip
          refine AStep.alloc (ds := [_, _, _]) rfl (wants_plain rfl) rfl rfl Tryd.zeroValue30 rfl (fun b7 => ?_)
          refine AD.one (i := 4) (by kernel_rfl) ?_
          refine AStep.callP rfl (wants_plain rfl) rfl rfl rfl Tryd.call15 (picked_vp G n 40 hn1 hn2 (by decide)) ⟨ot, opd_const, trivial⟩ ?_
          refine AD.take (i := 5) rfl (by kernel_rfl) (by kernel_rfl) (by kernel_rfl) (by repeat (first | exact NP.body | apply NP.then | apply NP.cut | apply NP.inBlock | apply NP.round)) (wants_plain rfl) rfl (still_bin rfl ot opd_const (bin_sub (wrap_i64 (by omega) (by omega)))) (by exact trivial) (by intro h; cases h) ?_
          refine AD.take (i := 8) rfl (by kernel_rfl) (by kernel_rfl) (by kernel_rfl) (by repeat (first | exact NP.body | apply NP.then | apply NP.cut | apply NP.inBlock | apply NP.round)) (wants_plain rfl) rfl (still_bld (pl := [(0, _), (1, _), (2, _)]) (ds := [_, _, _]) rfl Tryd.zeroValue65 Tryd.runUnderlying65 places65_Nm4 ⟨rfl, ot, rfl, ot, rfl, ot, trivial⟩ rfl rfl) (by exact trivial) (by intro h; cases h) ?_
          refine AD.one (i := 9) (by kernel_rfl) ?_
          refine AStep.callP rfl (wants_plain rfl) rfl rfl rfl Tryd.call27 (value_vp ⟨n, pickedF n 40 - 20, s⟩ hvo) ⟨ot, trivial⟩ ?_
          refine AD.one (i := 11) (by kernel_rfl) ?_
          refine AStep.store (k := 0) (cs' := [_, _, _]) rfl (wants_plain rfl) rfl rfl ot rfl rfl ot rfl rfl Tryd.sizeOf30 rfl rfl rfl (by intro b hb; simp [bks, St.put] at hb ⊢; try first | exact hb | simp [hb] | (rcases hb with hb | hb <;> simp [hb]) | (rcases hb with hb | hb | hb <;> simp [hb])) ?_
          refine AD.wk (y := ⟨69, [(5, _), (7, _)], [⟨b7, 30, 3, [_, _, _]⟩, ⟨b3, 3, 1, [_]⟩, ⟨b2, 47, 4, [_, _, _, _]⟩]⟩) (Wk.as_ rfl rfl ⟨lk, lk, trivial⟩) rfl ?_
          refine AD.done (by kernel_rfl) ?_
          refine CD.seq ?_
          refine CD.region ?_
          refine OD.still (wants_plain rfl) rfl (still_r1 (mk := fun y => Op.fieldAddr 30 y 2) rfl ot (by first | exact fa_ptr (off := 2) Tryd.runUnderlying30 rfl Tryd.sizeOf9 rfl | exact fa_iptr (off := 2) Tryd.runUnderlying30 rfl Tryd.sizeOf9 rfl)) ?_
          refine OD.still (wants_plain rfl) rfl (still_r1 (mk := Op.load 9) rfl ot (by first | exact ld_blk (k := 0) rfl rfl Tryd.isAgg9 rfl | exact ld_i Tryd.isAgg9 rfl)) ?_
          refine OD.callP (wants_plain rfl) rfl rfl rfl Tryd.call28 (cut_vp (valueF ⟨n, pickedF n 40 - 20, s⟩).s 4 (by omega)) ⟨ot, opd_const, trivial⟩ ?_
          refine OD.still (wants_plain rfl) rfl (still_r1 (mk := fun y => Op.fieldAddr 30 y 2) rfl ot (by first | exact fa_ptr (off := 2) Tryd.runUnderlying30 rfl Tryd.sizeOf9 rfl | exact fa_iptr (off := 2) Tryd.runUnderlying30 rfl Tryd.sizeOf9 rfl)) ?_
          refine OD.store (k := 0) (cs' := [_, _, _]) (wants_plain rfl) rfl rfl ot rfl rfl ot rfl rfl Tryd.sizeOf9 rfl rfl rfl ?_
          refine OD.wk (Wk.as_ (n := 69) (l' := [(5, _), (7, _)]) (S' := [⟨b7, 30, 3, [_, _, _]⟩, ⟨b3, 3, 1, [_]⟩, ⟨b2, 47, 4, [_, _, _, _]⟩]) rfl rfl ⟨lk, lk, trivial⟩) ?_
          refine OD.nil ?_
          refine CD.seq ?_
          refine CD.region ?_
          refine OD.still (wants_plain rfl) rfl (still_mv rfl ot) ?_
          refine OD.still (wants_plain rfl) rfl (still_r1 (mk := Op.load 30) rfl ot (by first | exact ld_blks (k := 0) (ds := [_, _, _]) rfl rfl Tryd.isAgg30 Tryd.sizeOf30 rfl rfl | exact ld_is (ds := [_, _, _]) Tryd.isAgg30 Tryd.sizeOf30 rfl rfl)) ?_
          refine OD.still (wants_plain rfl) rfl (still_bld (pl := [(0, _), (1, _)]) (ds := [_, _, _, _, _]) rfl Tryd.zeroValue52 Tryd.runUnderlying52 places52_Nm4 ⟨rfl, ot, rfl, ot, trivial⟩ rfl rfl) ?_
          refine OD.bldS (pl := [(0, _)]) (zvs := [.int .i64 0, .int .i64 0, .int .i64 0, .string ⟨#[]⟩, .string ⟨#[]⟩]) (ds := [_, _, _, _, _]) (wants_plain rfl) rfl rfl Tryd.zeroValue52 Tryd.runUnderlying48 Tryd.sizeOf52 rfl rfl (by kernel_rfl) ⟨rfl, ot, trivial⟩ rfl rfl (fun b39 => ?_)
          refine OD.still (wants_plain rfl) rfl (still_as rfl ot) ?_
          refine OD.wk (Wk.as_ (n := 69) (l' := [(4, _)]) (S' := [⟨b39, 52, 5, [_, _, _, _, _]⟩, ⟨b7, 30, 3, [_, _, _]⟩, ⟨b3, 3, 1, [_]⟩, ⟨b2, 47, 4, [_, _, _, _]⟩]) rfl rfl ⟨lk, trivial⟩) ?_
          refine OD.nil ?_
          refine CD.ret ?_
          refine ⟨.inr rfl, _, [_], (List.Sublist.cons_cons _ (List.nil_sublist _)), ret_one Tryd.results36 (res_tmp (Nat.le_of_ble_eq_true rfl) lk), ?_⟩
          first | exact RetL.cast (RetL.mk (g := cO) (e := 52) (sz := 5) (ls := [(⟨1, litV n s, ⟨#[]⟩⟩ : OpL)]) (ownL_row (ls := [(⟨1, litV n s, ⟨#[]⟩⟩ : OpL)]) (Nat.le_refl _) (show 1 ≤ maxLen by decide))) (by unfold leafOps litOp; rw [if_neg (by omega)]) | exact RetL.cast (RetL.mk (g := cO) (e := 52) (sz := 5) (ls := [(⟨kk, litV n s, ⟨#[]⟩⟩ : OpL)]) (ownL_row (ls := [(⟨kk, litV n s, ⟨#[]⟩⟩ : OpL)]) (Nat.le_refl _) (show 1 ≤ maxLen by decide))) (by unfold leafOps litOp; rw [if_neg (by omega), show kk = 1 by omega]) | exact RetL.cast (RetL.mk (g := cO) (e := 52) (sz := 5) (ls := [(⟨kk, noVl, nameC (j : Int)⟩ : OpL)]) (ownL_row (ls := [(⟨kk, noVl, nameC (j : Int)⟩ : OpL)]) (Nat.le_refl _) (show 1 ≤ maxLen by decide))) (by unfold leafOps colOp; rw [if_pos (by omega), hj, show kk = 2 by omega])
      · have hc1' := hc1
        (try simp only [decide_eq_true_eq, decide_eq_false_iff_not, beq_iff_eq, bne_iff_ne, Bool.not_eq_true', Bool.not_eq_false', Bool.not_eq_true, Bool.not_eq_false, beq_eq_false_iff_ne, ne_eq, bne_eq_false_iff_eq, Bool.and_eq_true, Bool.or_eq_true, Bool.not_not, Bool.and_eq_false_iff, Bool.or_eq_false_iff, Int.not_lt, Int.not_le] at hc1')
        refine CD.seq ?_
        refine CD.region ?_
        refine OD.still (wants_plain rfl) rfl (still_bin rfl ot opd_const bin_eql) ?_
        refine OD.still (wants_plain rfl) rfl (still_as rfl ot) ?_
        refine OD.wk (Wk.as_ (n := 69) (l' := [(2, _), (5, _), (6, _), (19, _), (40, _)]) (S' := [⟨b3, 3, 1, [_]⟩, ⟨b2, 47, 4, [_, _, _, _]⟩]) rfl rfl ⟨lk, lk, lk, lk, lk, trivial⟩) ?_
        refine OD.nil ?_
        refine CD.cond ot (fun hc2 => ?_) (fun hc2 => ?_)
        · have hc2' := hc2
          (try simp only [decide_eq_true_eq, decide_eq_false_iff_not, beq_iff_eq, bne_iff_ne, Bool.not_eq_true', Bool.not_eq_false', Bool.not_eq_true, Bool.not_eq_false, beq_eq_false_iff_ne, ne_eq, bne_eq_false_iff_eq, Bool.and_eq_true, Bool.or_eq_true, Bool.not_not, Bool.and_eq_false_iff, Bool.or_eq_false_iff, Int.not_lt, Int.not_le] at hc2')
          refine CD.seq ?_
          refine CD.region ?_
          refine OD.still (wants_plain rfl) rfl (still_mv rfl ot) ?_
          refine OD.bldS (pl := [(0, _), (1, _), (2, _), (3, _)]) (zvs := [.string ⟨#[]⟩, .string ⟨#[]⟩, .string ⟨#[]⟩, .string ⟨#[]⟩]) (ds := [_, _, _, _]) (wants_plain rfl) rfl rfl Tryd.zeroValue9 Tryd.runUnderlying41 Tryd.sizeOf9 rfl rfl (by kernel_rfl) ⟨rfl, opd_const, rfl, opd_const, rfl, opd_const, rfl, opd_const, trivial⟩ rfl rfl (fun b43 => ?_)
          refine OD.give (k := 0) (t := 43) (sz := 1) (m := 4) rfl lk rfl rfl rfl (Nat.le_refl _) (by decide) ?_
          refine OD.still (wants_plain rfl) rfl (still_r1 (mk := fun y => Op.fieldAddr 47 y 1) rfl ot (by first | exact fa_ptr (off := 1) Tryd.runUnderlying47 rfl Tryd.sizeOf3 rfl | exact fa_iptr (off := 1) Tryd.runUnderlying47 rfl Tryd.sizeOf3 rfl)) ?_
          refine OD.still (wants_plain rfl) rfl (still_r1 (mk := Op.load 3) rfl ot (by first | exact ld_blk (k := 1) rfl rfl Tryd.isAgg3 rfl | exact ld_i Tryd.isAgg3 rfl)) ?_
          refine OD.callP (wants_plain rfl) rfl rfl rfl Tryd.call15 (hpkn) ⟨ot, opd_const, trivial⟩ ?_
          refine OD.still (wants_plain rfl) rfl (still_r2 (mk := Op.indexAddr 41) rfl ot ot (by first | exact ix_list Tryd.runUnderlying41 Tryd.sizeOf9 rfl (by first | assumption | omega) | exact ix_list (j := Int.toNat _) Tryd.runUnderlying41 Tryd.sizeOf9 (Int.toNat_of_nonneg (by omega)).symm (by omega) | exact ix_row Tryd.runUnderlying41 Tryd.sizeOf9 rfl (by first | assumption | omega) | exact ix_row (j := Int.toNat _) Tryd.runUnderlying41 Tryd.sizeOf9 (Int.toNat_of_nonneg (by omega)).symm (by omega))) ?_
          refine OD.still (wants_plain rfl) rfl (still_r1 (mk := Op.load 9) rfl ot (ld_i Tryd.isAgg9 (name_at hj4))) ?_
          refine OD.still (wants_plain rfl) rfl (still_bld (pl := [(0, _), (2, _)]) (ds := [_, _, _, _, _]) rfl Tryd.zeroValue52 Tryd.runUnderlying52 places52_Nm4 ⟨rfl, ot, rfl, ot, trivial⟩ rfl rfl) ?_
          refine OD.bldS (pl := [(0, _)]) (zvs := [.int .i64 0, .int .i64 0, .int .i64 0, .string ⟨#[]⟩, .string ⟨#[]⟩]) (ds := [_, _, _, _, _]) (wants_plain rfl) rfl rfl Tryd.zeroValue52 Tryd.runUnderlying48 Tryd.sizeOf52 rfl rfl (by kernel_rfl) ⟨rfl, ot, trivial⟩ rfl rfl (fun b50 => ?_)
          refine OD.still (wants_plain rfl) rfl (still_as rfl ot) ?_
          refine OD.wk (Wk.as_ (n := 69) (l' := [(4, _)]) (S' := [⟨b50, 52, 5, [_, _, _, _, _]⟩, ⟨b3, 3, 1, [_]⟩, ⟨b2, 47, 4, [_, _, _, _]⟩]) rfl rfl ⟨lk, trivial⟩) ?_
          refine OD.nil ?_
          refine CD.ret ?_
          refine ⟨.inr rfl, _, [_], (List.Sublist.cons_cons _ (List.nil_sublist _)), ret_one Tryd.results36 (res_tmp (Nat.le_of_ble_eq_true rfl) lk), ?_⟩
          first | exact RetL.cast (RetL.mk (g := cO) (e := 52) (sz := 5) (ls := [(⟨1, litV n s, ⟨#[]⟩⟩ : OpL)]) (ownL_row (ls := [(⟨1, litV n s, ⟨#[]⟩⟩ : OpL)]) (Nat.le_refl _) (show 1 ≤ maxLen by decide))) (by unfold leafOps litOp; rw [if_neg (by omega)]) | exact RetL.cast (RetL.mk (g := cO) (e := 52) (sz := 5) (ls := [(⟨kk, litV n s, ⟨#[]⟩⟩ : OpL)]) (ownL_row (ls := [(⟨kk, litV n s, ⟨#[]⟩⟩ : OpL)]) (Nat.le_refl _) (show 1 ≤ maxLen by decide))) (by unfold leafOps litOp; rw [if_neg (by omega), show kk = 1 by omega]) | exact RetL.cast (RetL.mk (g := cO) (e := 52) (sz := 5) (ls := [(⟨kk, noVl, nameC (j : Int)⟩ : OpL)]) (ownL_row (ls := [(⟨kk, noVl, nameC (j : Int)⟩ : OpL)]) (Nat.le_refl _) (show 1 ≤ maxLen by decide))) (by unfold leafOps colOp; rw [if_pos (by omega), hj, show kk = 2 by omega])
        · exact absurd hc2 (by simp at hc0 hc1 hc2; omega)
  · exact absurd hg14 (by simp at hg14; omega)

end Go.Proofs.YtoemmoeedhllfaaDoor.Nm

namespace Go.Proofs.YtoemmoeedhllfaaDoor.Nm
open Go.RowKit V Pk Vl
set_option linter.unusedVariables false
set_option linter.unusedSimpArgs false

variable {G : List (Nat × List Value)}
theorem sub_some {r : Nat} {ts : List Tw} {n : Int} {s : ByteArray} {i : Nat} (hi : i < ts.length) : opsAt r ts[i] = subO r ts n s i := by unfold subO; rw [List.getElem?_eq_getElem hi]
theorem sub_none {r : Nat} {ts : List Tw} {n : Int} {s : ByteArray} {i : Nat} (hi : ts.length ≤ i) : leafOps n i s = subO r ts n s i := by unfold subO; rw [List.getElem?_eq_none hi]
theorem ops_step (r : Nat) (k n : Int) (s : ByteArray) (ts : List Tw) : opsAt (r + 1) (.mk k n s ts) = if 1 + pickedF k 11 = 1 then [litOp n s] else if 1 + pickedF k 11 = 2 then [colOp n]
    else if 1 + pickedF k 11 = 5 ∨ 1 + pickedF k 11 = 11 then subO r ts n s 0 ++ [bareOp (1 + pickedF k 11)] else (subO r ts n s 0 ++ subO r ts n s 1) ++ [bareOp (1 + pickedF k 11)] := rfl

theorem places47_Nm5 : ∀ w, ((#[{ name := "Kind", type := 3, offset := 0, embedded := false, tag := "", pkgPath := "", byteOffset := 0 }, { name := "Int", type := 3, offset := 1, embedded := false, tag := "", pkgPath := "", byteOffset := 8 }, { name := "Text", type := 9, offset := 2, embedded := false, tag := "", pkgPath := "", byteOffset := 16 }, { name := "In", type := 45, offset := 3, embedded := false, tag := "", pkgPath := "", byteOffset := 32 }] : Array Field).mapM fun f => do pure (f.offset, ← sizeOf f.type) : Sem (Array (Nat × Nat))).run Tryd.prog w = .ok #[(0, 1), (1, 1), (2, 1), (3, 1)] w := fun w => by simp [Tryd.sizeOf3, Tryd.sizeOf45, Tryd.sizeOf9]

set_option maxHeartbeats 4000000 in
set_option maxRecDepth 100000 in
theorem in_vc (r : Nat) (k n d : Int) (s : ByteArray) (ts : List Tw) (i b2 b3 : Nat) (IH : ∀ t ∈ ts, VC Tryd.prog G 36 [.agg t.cs, .v (.int .i64 (d + 1))] [] (RetO (opsAt r t))) (hn1 : -9223372036854775808 ≤ n) (hn2 : n ≤ 9223372036854775807) (hs : s.size ≤ maxLen) (hd1 : 0 ≤ d) (hd : d ≤ 2) (hi : i ≤ 1) : VC Tryd.prog G 53 [.v (.int .i64 (i : Int)), .v (.pointer (some ⟨b2, 0, none⟩)), .v (.pointer (some ⟨b3, 0, none⟩))] [⟨b3, 3, 1, [.v (.int .i64 d)]⟩, ⟨b2, 47, 4, [.v (.int .i64 k), .v (.int .i64 n), .v (.string s), .list 4 (ts.flatMap Tw.cs) ts.length]⟩] (fun x S => ∃ S1, RetO (subO r ts n s i) x S1 ∧ S = S1 ++ [⟨b3, 3, 1, [.v (.int .i64 d)]⟩, ⟨b2, 47, 4, [.v (.int .i64 k), .v (.int .i64 n), .v (.string s), .list 4 (ts.flatMap Tw.cs) ts.length]⟩]) := by
  refine VC.body Tryd.func53 rfl Tryd.ntmps53 (Nat.le_of_ble_eq_true rfl) fun X0 w0 S00 => ?_
  refine CD.seq ?_
  refine CD.region ?_
  refine OD.still (wants_plain rfl) rfl (still_as rfl opd_const) ?_
  refine OD.wk (Wk.as_ (n := 25) (l' := [(0, _), (1, _), (2, _)]) (S' := _) rfl rfl ⟨lk, lk, lk, trivial⟩) ?_
  refine OD.nil ?_
  refine CD.seq ?_
  refine CD.seq ?_
  refine CD.region ?_
  refine OD.still (wants_plain rfl) rfl (still_mv rfl ot) ?_
  refine OD.still (wants_plain rfl) rfl (still_r1 (mk := fun y => Op.fieldAddr 47 y 3) rfl ot (by first | exact fa_ptr (off := 3) Tryd.runUnderlying47 rfl Tryd.sizeOf45 rfl | exact fa_iptr (off := 3) Tryd.runUnderlying47 rfl Tryd.sizeOf45 rfl)) ?_
  refine OD.still (wants_plain rfl) rfl (still_r1 (mk := Op.load 45) rfl ot (by first | exact ld_blk (k := 1) rfl rfl Tryd.isAgg45 rfl | exact ld_fm Tw.cs_len Tryd.isAgg45 (by first | assumption | omega) rfl | exact ld_fm0 Tw.cs_len Tryd.isAgg45 (by first | assumption | omega) rfl | exact ld_row (k := 0) Tw.cs_len rfl rfl rfl Tryd.isAgg45 (by first | assumption | omega) rfl | exact ld_row0 (k := 0) Tw.cs_len rfl rfl rfl Tryd.isAgg45 (by first | assumption | omega) rfl | exact ld_row (k := 1) Tw.cs_len rfl rfl rfl Tryd.isAgg45 (by first | assumption | omega) rfl | exact ld_row0 (k := 1) Tw.cs_len rfl rfl rfl Tryd.isAgg45 (by first | assumption | omega) rfl | exact ld_i Tryd.isAgg45 rfl)) ?_
  refine OD.still (wants_plain rfl) rfl (still_r1 (mk := fun y => .call { callee := .builtin .len, args := #[y], argTypes := #[45] }) rfl ot (by first | exact len_list rfl Tryd.runUnderlying45 | exact len_row rfl Tryd.runUnderlying45)) ?_
  refine OD.still (wants_plain rfl) rfl (still_bin rfl ot ot bin_lss) ?_
  refine OD.wk (Wk.as_ (n := 25) (l' := [(0, _), (1, _), (2, _), (9, _)]) (S' := _) rfl rfl ⟨lk, lk, lk, lk, trivial⟩) ?_
  refine OD.nil ?_
  refine CD.cond ot (fun hc0 => ?_) (fun hc0 => ?_)
  · have hc0' := hc0
    (try simp only [decide_eq_true_eq, decide_eq_false_iff_not, beq_iff_eq, bne_iff_ne, Bool.not_eq_true', Bool.not_eq_false', Bool.not_eq_true, Bool.not_eq_false, beq_eq_false_iff_ne, ne_eq, bne_eq_false_iff_eq, Bool.and_eq_true, Bool.or_eq_true, Bool.not_not, Bool.and_eq_false_iff, Bool.or_eq_false_iff, Int.not_lt, Int.not_le] at hc0')
    have hlt : i < ts.length := by omega
    refine CD.seq ?_
    refine CD.draw (bks _) (by kernel_rfl) (fun _ h => h) ?_
    refine AD0.take (i := 0) rfl (by kernel_rfl) (by kernel_rfl) (by kernel_rfl) (by repeat (first | exact NP.body | apply NP.then | apply NP.cut | apply NP.inBlock | apply NP.round)) (wants_plain rfl) rfl (still_r1 (mk := fun y => Op.fieldAddr 47 y 3) rfl ot (by first | exact fa_ptr (off := 3) Tryd.runUnderlying47 rfl Tryd.sizeOf45 rfl | exact fa_iptr (off := 3) Tryd.runUnderlying47 rfl Tryd.sizeOf45 rfl)) (by exact trivial) ?_
    refine AD0.take (i := 1) rfl (by kernel_rfl) (by kernel_rfl) (by kernel_rfl) (by repeat (first | exact NP.body | apply NP.then | apply NP.cut | apply NP.inBlock | apply NP.round)) (wants_plain rfl) rfl (still_r1 (mk := Op.load 45) rfl ot (by first | exact ld_blk (k := 1) rfl rfl Tryd.isAgg45 rfl | exact ld_fm Tw.cs_len Tryd.isAgg45 (by first | assumption | omega) rfl | exact ld_fm0 Tw.cs_len Tryd.isAgg45 (by first | assumption | omega) rfl | exact ld_row (k := 0) Tw.cs_len rfl rfl rfl Tryd.isAgg45 (by first | assumption | omega) rfl | exact ld_row0 (k := 0) Tw.cs_len rfl rfl rfl Tryd.isAgg45 (by first | assumption | omega) rfl | exact ld_row (k := 1) Tw.cs_len rfl rfl rfl Tryd.isAgg45 (by first | assumption | omega) rfl | exact ld_row0 (k := 1) Tw.cs_len rfl rfl rfl Tryd.isAgg45 (by first | assumption | omega) rfl | exact ld_i Tryd.isAgg45 rfl)) (by first | exact trivial | exact safe_blk (k0 := 0) rfl rfl | exact safe_blk (k0 := 1) rfl rfl) ?_
    refine AD0.take (i := 2) rfl (by kernel_rfl) (by kernel_rfl) (by kernel_rfl) (by repeat (first | exact NP.body | apply NP.then | apply NP.cut | apply NP.inBlock | apply NP.round)) (wants_plain rfl) rfl (still_mv rfl ot) (by exact trivial) ?_
    refine AD0.take (i := 3) rfl (by kernel_rfl) (by kernel_rfl) (by kernel_rfl) (by repeat (first | exact NP.body | apply NP.then | apply NP.cut | apply NP.inBlock | apply NP.round)) (wants_plain rfl) rfl (still_r2 (mk := Op.indexAddr 45) rfl ot ot (by first | exact ix_list Tryd.runUnderlying45 Tryd.sizeOf47 rfl (by first | assumption | omega) | exact ix_list (j := Int.toNat _) Tryd.runUnderlying45 Tryd.sizeOf47 (Int.toNat_of_nonneg (by omega)).symm (by omega) | exact ix_row Tryd.runUnderlying45 Tryd.sizeOf47 rfl (by first | assumption | omega) | exact ix_row (j := Int.toNat _) Tryd.runUnderlying45 Tryd.sizeOf47 (Int.toNat_of_nonneg (by omega)).symm (by omega))) (by exact trivial) ?_
    refine AD0.take (i := 4) rfl (by kernel_rfl) (by kernel_rfl) (by kernel_rfl) (by repeat (first | exact NP.body | apply NP.then | apply NP.cut | apply NP.inBlock | apply NP.round)) (wants_plain rfl) rfl (still_r1 (mk := Op.load 47) rfl ot (by first | exact ld_blks (k := 0) (ds := [_, _, _, _]) rfl rfl Tryd.isAgg47 Tryd.sizeOf47 rfl rfl | exact ld_blks (k := 1) (ds := [_, _, _, _]) rfl rfl Tryd.isAgg47 Tryd.sizeOf47 rfl rfl | exact ld_fms Tw.cs_len Tryd.isAgg47 Tryd.sizeOf47 (by first | assumption | omega) | exact ld_rows (k := 0) Tw.cs_len rfl rfl rfl Tryd.isAgg47 Tryd.sizeOf47 (by first | assumption | omega) | exact ld_rows (k := 1) Tw.cs_len rfl rfl rfl Tryd.isAgg47 Tryd.sizeOf47 (by first | assumption | omega) | exact ld_is (ds := [_, _, _, _]) Tryd.isAgg47 Tryd.sizeOf47 rfl rfl)) (by first | exact trivial | exact safe_blk (k0 := 0) rfl rfl | exact safe_blk (k0 := 1) rfl rfl) ?_
    refine AD0.take (i := 5) rfl (by kernel_rfl) (by kernel_rfl) (by kernel_rfl) (by repeat (first | exact NP.body | apply NP.then | apply NP.cut | apply NP.inBlock | apply NP.round)) (wants_plain rfl) rfl (still_r1 (mk := Op.load 3) rfl ot (by first | exact ld_blk (k := 0) rfl rfl Tryd.isAgg3 rfl | exact ld_fm Tw.cs_len Tryd.isAgg3 (by first | assumption | omega) rfl | exact ld_fm0 Tw.cs_len Tryd.isAgg3 (by first | assumption | omega) rfl | exact ld_row (k := 0) Tw.cs_len rfl rfl rfl Tryd.isAgg3 (by first | assumption | omega) rfl | exact ld_row0 (k := 0) Tw.cs_len rfl rfl rfl Tryd.isAgg3 (by first | assumption | omega) rfl | exact ld_row (k := 1) Tw.cs_len rfl rfl rfl Tryd.isAgg3 (by first | assumption | omega) rfl | exact ld_row0 (k := 1) Tw.cs_len rfl rfl rfl Tryd.isAgg3 (by first | assumption | omega) rfl | exact ld_i Tryd.isAgg3 rfl)) (by first | exact trivial | exact safe_blk (k0 := 0) rfl rfl | exact safe_blk (k0 := 1) rfl rfl) ?_
    refine AD0.take (i := 6) rfl (by kernel_rfl) (by kernel_rfl) (by kernel_rfl) (by repeat (first | exact NP.body | apply NP.then | apply NP.cut | apply NP.inBlock | apply NP.round)) (wants_plain rfl) rfl (still_bin rfl ot opd_const (bin_add (wrap_i64 (by omega) (by omega)))) (by exact trivial) ?_
    refine AD0.later rfl ?_
    refine AD.one (i := 7) (by kernel_rfl) ?_
    refine AStep.call rfl (wants_plain rfl) rfl rfl rfl Tryd.call36 (IH _ (List.getElem_mem hlt)) ⟨ot, ot, trivial⟩ (perm_none _) (fun _ h => h) ?_
    rintro _ S17 ⟨ad17, cp17, rfl, ho17⟩
    refine AD.take (i := 8) rfl (by kernel_rfl) (by kernel_rfl) (by kernel_rfl) (by repeat (first | exact NP.body | apply NP.then | apply NP.cut | apply NP.inBlock | apply NP.round)) (wants_plain rfl) rfl (still_as rfl ot) (by exact trivial) (by intro h; cases h) ?_
    refine AD.wk (y := ⟨25, [(4, _)], ((S17 ++ [_, _]))⟩) (Wk.as_ rfl rfl ⟨lk, trivial⟩) rfl ?_
    refine AD.done (by kernel_rfl) ?_
    refine CD.ret ?_
    refine ⟨.inr rfl, _, _, (List.Sublist.refl _), ret_one Tryd.results53 (res_tmp (Nat.le_of_ble_eq_true rfl) lk), ?_⟩
    first | exact ⟨_, RetL.cast (RetL.mk ho17) (sub_some hlt), rfl⟩ | exact ⟨_, RetL.cast (RetL.mk ho24) (sub_none (by omega)), rfl⟩
  · have hc0' := hc0
    (try simp only [decide_eq_true_eq, decide_eq_false_iff_not, beq_iff_eq, bne_iff_ne, Bool.not_eq_true', Bool.not_eq_false', Bool.not_eq_true, Bool.not_eq_false, beq_eq_false_iff_ne, ne_eq, bne_eq_false_iff_eq, Bool.and_eq_true, Bool.or_eq_true, Bool.not_not, Bool.and_eq_false_iff, Bool.or_eq_false_iff, Int.not_lt, Int.not_le] at hc0')
    refine CD.skip ?_
    refine CD.seq ?_
    refine CD.region ?_
    refine OD.still (wants_plain rfl) rfl (still_r1 (mk := fun y => Op.fieldAddr 47 y 1) rfl ot (by first | exact fa_ptr (off := 1) Tryd.runUnderlying47 rfl Tryd.sizeOf3 rfl | exact fa_iptr (off := 1) Tryd.runUnderlying47 rfl Tryd.sizeOf3 rfl)) ?_
    refine OD.still (wants_plain rfl) rfl (still_r1 (mk := Op.load 3) rfl ot (by first | exact ld_blk (k := 1) rfl rfl Tryd.isAgg3 rfl | exact ld_fm Tw.cs_len Tryd.isAgg3 (by first | assumption | omega) rfl | exact ld_fm0 Tw.cs_len Tryd.isAgg3 (by first | assumption | omega) rfl | exact ld_row (k := 0) Tw.cs_len rfl rfl rfl Tryd.isAgg3 (by first | assumption | omega) rfl | exact ld_row0 (k := 0) Tw.cs_len rfl rfl rfl Tryd.isAgg3 (by first | assumption | omega) rfl | exact ld_row (k := 1) Tw.cs_len rfl rfl rfl Tryd.isAgg3 (by first | assumption | omega) rfl | exact ld_row0 (k := 1) Tw.cs_len rfl rfl rfl Tryd.isAgg3 (by first | assumption | omega) rfl | exact ld_i Tryd.isAgg3 rfl)) ?_
    refine OD.still (wants_plain rfl) rfl (still_mv rfl ot) ?_
    refine OD.still (wants_plain rfl) rfl (still_r1 (mk := fun y => Op.fieldAddr 47 y 2) rfl ot (by first | exact fa_ptr (off := 2) Tryd.runUnderlying47 rfl Tryd.sizeOf9 rfl | exact fa_iptr (off := 2) Tryd.runUnderlying47 rfl Tryd.sizeOf9 rfl)) ?_
    refine OD.still (wants_plain rfl) rfl (still_r1 (mk := Op.load 9) rfl ot (by first | exact ld_blk (k := 1) rfl rfl Tryd.isAgg9 rfl | exact ld_fm Tw.cs_len Tryd.isAgg9 (by first | assumption | omega) rfl | exact ld_fm0 Tw.cs_len Tryd.isAgg9 (by first | assumption | omega) rfl | exact ld_row (k := 0) Tw.cs_len rfl rfl rfl Tryd.isAgg9 (by first | assumption | omega) rfl | exact ld_row0 (k := 0) Tw.cs_len rfl rfl rfl Tryd.isAgg9 (by first | assumption | omega) rfl | exact ld_row (k := 1) Tw.cs_len rfl rfl rfl Tryd.isAgg9 (by first | assumption | omega) rfl | exact ld_row0 (k := 1) Tw.cs_len rfl rfl rfl Tryd.isAgg9 (by first | assumption | omega) rfl | exact ld_i Tryd.isAgg9 rfl)) ?_
    refine OD.still (wants_plain rfl) rfl (still_bld (pl := [(0, _), (1, _), (2, _)]) (ds := [_, _, _, _]) rfl Tryd.zeroValue47 Tryd.runUnderlying47 places47_Nm5 ⟨rfl, ot, rfl, ot, rfl, ot, trivial⟩ rfl rfl) ?_
    refine OD.call (wants_plain rfl) rfl rfl rfl Tryd.call36 (leaf_vc n (i : Int) 9 s (.v (.slice none 0 0)) rfl hn1 hn2 (by omega) (by omega) hs (by decide)) ⟨ot, opd_const, trivial⟩ (perm_none _) ?_
    rintro _ S24 ⟨ad24, cp24, rfl, ho24⟩
    refine OD.still (wants_plain rfl) rfl (still_as rfl ot) ?_
    refine OD.wk (Wk.as_ (n := 25) (l' := [(4, _)]) (S' := _) rfl rfl ⟨lk, trivial⟩) ?_
    refine OD.nil ?_
    refine CD.ret ?_
    refine ⟨.inr rfl, _, _, (List.Sublist.refl _), ret_one Tryd.results53 (res_tmp (Nat.le_of_ble_eq_true rfl) lk), ?_⟩
    first | exact ⟨_, RetL.cast (RetL.mk ho17) (sub_some hlt), rfl⟩ | exact ⟨_, RetL.cast (RetL.mk ho24) (sub_none (by omega)), rfl⟩

theorem info52_Nm5 : (Tryd.prog.info? 52).map (fun i => (i.zero, i.size, i.bytes)) = some (some (.agg #[.int .i64 0, .int .i64 0, .int .i64 0, .string ⟨#[]⟩, .string ⟨#[]⟩]), 5, 56) := by kernel_rfl

theorem places52_Nm5 : ∀ w, ((#[{ name := "Kind", type := 3, offset := 0, embedded := false, tag := "", pkgPath := "", byteOffset := 0 }, { name := "Value", type := 30, offset := 1, embedded := false, tag := "", pkgPath := "", byteOffset := 8 }, { name := "Name", type := 9, offset := 4, embedded := false, tag := "", pkgPath := "", byteOffset := 40 }] : Array Field).mapM fun f => do pure (f.offset, ← sizeOf f.type) : Sem (Array (Nat × Nat))).run Tryd.prog w = .ok #[(0, 1), (1, 3), (4, 1)] w := fun w => by simp [Tryd.sizeOf3, Tryd.sizeOf30, Tryd.sizeOf9]

theorem places65_Nm5 : ∀ w, ((#[{ name := "Kind", type := 3, offset := 0, embedded := false, tag := "", pkgPath := "", byteOffset := 0 }, { name := "Int", type := 3, offset := 1, embedded := false, tag := "", pkgPath := "", byteOffset := 8 }, { name := "Text", type := 9, offset := 2, embedded := false, tag := "", pkgPath := "", byteOffset := 16 }] : Array Field).mapM fun f => do pure (f.offset, ← sizeOf f.type) : Sem (Array (Nat × Nat))).run Tryd.prog w = .ok #[(0, 1), (1, 1), (2, 1)] w := fun w => by simp [Tryd.sizeOf3, Tryd.sizeOf9]

set_option maxHeartbeats 4000000 in
set_option maxRecDepth 100000 in
theorem step_vc (r : Nat) (hr : r ≤ 2) (k n d : Int) (s : ByteArray) (ts : List Tw) (IH : ∀ t ∈ ts, VC Tryd.prog G 36 [.agg t.cs, .v (.int .i64 (d + 1))] [] (RetO (opsAt r t))) (hk1 : -9223372036854775808 ≤ k) (hk2 : k ≤ 9223372036854775807) (hn1 : -9223372036854775808 ≤ n) (hn2 : n ≤ 9223372036854775807) (hs : s.size ≤ maxLen) (hd1 : 0 ≤ d) (hd : d ≤ 2) : VC Tryd.prog G 36 [.agg [.v (.int .i64 k), .v (.int .i64 n), .v (.string s), .list 4 (ts.flatMap Tw.cs) ts.length], .v (.int .i64 d)] [] (RetO (opsAt (r + 1) (.mk k n s ts))) := by
  refine VC.body Tryd.func36 rfl Tryd.ntmps36 (Nat.le_of_ble_eq_true rfl) fun X0 w0 S00 => ?_
  have hpk := pickedF_bd k (by decide : (1 : Int) ≤ 11)
  have hpn := pickedF_bd n (by decide : (1 : Int) ≤ 40)
  have hpc := pickedF_bd n (by decide : (1 : Int) ≤ 4)
  obtain ⟨j, hj⟩ := Int.eq_ofNat_of_zero_le hpc.1
  have hj4 : j < 4 := by omega
  have hpkn := picked_vp G n 4 hn1 hn2 (by decide)
  rw [hj] at hpkn
  have hvo : (⟨n, pickedF n 40 - 20, s⟩ : Vl).Ok := ⟨hn1, hn2, by show _ ≤ pickedF n 40 - 20; omega, by show pickedF n 40 - 20 ≤ _; omega, hs⟩
  have hvs := value_size ⟨n, pickedF n 40 - 20, s⟩
  have hml : 100 ≤ maxLen := by decide
  obtain ⟨kk, hkk⟩ : ∃ kk : Int, 1 + pickedF k 11 = kk := ⟨_, rfl⟩
  have hl0 := sub_len r ts n s 0
  have hl1 := sub_len r ts n s 1
  have h2p : 2 ^ (r + 1) ≤ 8 := Nat.pow_le_pow_right (by decide) (show r + 1 ≤ 3 by omega)
  refine CD.seq ?_
  refine CD.region ?_
  refine OD.box (ds := [_, _, _, _]) (wants_plain rfl) rfl rfl ot rfl rfl (fun b2 => ?_)
  refine OD.box (ds := [_]) (wants_plain rfl) rfl rfl ot rfl rfl (fun b3 => ?_)
  refine OD.still (wants_plain rfl) rfl (still_as rfl opd_const) ?_
  refine OD.wk (Wk.as_ (n := 69) (l' := [(2, _), (3, _)]) (S' := [⟨b3, 3, 1, [_]⟩, ⟨b2, 47, 4, [_, _, _, _]⟩]) rfl rfl ⟨lk, lk, trivial⟩) ?_
  refine OD.nil ?_
  refine CD.seq ?_
  refine CD.region ?_
  refine OD.still (wants_plain rfl) rfl (still_r1 (mk := fun y => Op.fieldAddr 47 y 0) rfl ot (by first | exact fa_ptr (off := 0) Tryd.runUnderlying47 rfl Tryd.sizeOf3 rfl | exact fa_iptr (off := 0) Tryd.runUnderlying47 rfl Tryd.sizeOf3 rfl)) ?_
  refine OD.still (wants_plain rfl) rfl (still_r1 (mk := Op.load 3) rfl ot (by first | exact ld_blk (k := 1) rfl rfl Tryd.isAgg3 rfl | exact ld_i Tryd.isAgg3 rfl)) ?_
  refine OD.callP (wants_plain rfl) rfl rfl rfl Tryd.call15 (picked_vp G k 11 hk1 hk2 (by decide)) ⟨ot, opd_const, trivial⟩ ?_
  refine OD.still (wants_plain rfl) rfl (still_bin (r := .int .i64 kk) rfl opd_const ot (bin_add (by rw [hkk]; exact wrap_i64 (by omega) (by omega)))) ?_
  refine OD.still (wants_plain rfl) rfl (still_as rfl ot) ?_
  refine OD.wk (Wk.as_ (n := 69) (l' := [(2, _), (3, _), (5, _)]) (S' := [⟨b3, 3, 1, [_]⟩, ⟨b2, 47, 4, [_, _, _, _]⟩]) rfl rfl ⟨lk, lk, lk, trivial⟩) ?_
  refine OD.nil ?_
  refine CD.seq ?_
  refine CD.seq ?_
  refine CD.region ?_
  refine OD.still (wants_plain rfl) rfl (still_r1 (mk := Op.load 3) rfl ot (by first | exact ld_blk (k := 0) rfl rfl Tryd.isAgg3 rfl | exact ld_i Tryd.isAgg3 rfl)) ?_
  refine OD.still (wants_plain rfl) rfl (still_bin rfl ot opd_const bin_gtr) ?_
  refine OD.still (wants_plain rfl) rfl (still_mv rfl ot) ?_
  refine OD.split (t := 14) lk (fun hg14 => ?_) (fun hg14 => ?_)
  · exact absurd hg14 (by simp at hg14; omega)
  · have hg14' := hg14; (try simp only [decide_eq_true_eq, decide_eq_false_iff_not, beq_iff_eq, bne_iff_ne, Bool.not_eq_true', Bool.not_eq_false', Bool.not_eq_true, Bool.not_eq_false, beq_eq_false_iff_ne, ne_eq, bne_eq_false_iff_eq, Bool.and_eq_true, Bool.or_eq_true, Bool.not_not] at hg14')
    refine OD.skip (wants_F rfl rfl rfl lk (by first | rfl | assumption)) rfl ?_
    refine OD.skip (wants_F rfl rfl rfl lk (by first | rfl | assumption)) rfl ?_
    refine OD.still (wants_plain rfl) rfl (still_pickF rfl ot (by first | rfl | assumption) opd_const) ?_
    refine OD.wk (Wk.as_ (n := 69) (l' := [(2, _), (3, _), (5, _), (17, _)]) (S' := [⟨b3, 3, 1, [_]⟩, ⟨b2, 47, 4, [_, _, _, _]⟩]) rfl rfl ⟨lk, lk, lk, lk, trivial⟩) ?_
    refine OD.nil ?_
    refine CD.condF ot (by first | rfl | assumption) ?_
    refine CD.skip ?_
    refine CD.seq ?_
    refine CD.region ?_
    refine OD.still (wants_plain rfl) rfl (still_fn (ds := [_, _]) rfl ⟨ot, ot, trivial⟩) ?_
    refine OD.still (wants_plain rfl) rfl (still_as rfl ot) ?_
    refine OD.wk (Wk.as_ (n := 69) (l' := [(2, _), (5, _), (6, _)]) (S' := [⟨b3, 3, 1, [_]⟩, ⟨b2, 47, 4, [_, _, _, _]⟩]) rfl rfl ⟨lk, lk, lk, trivial⟩) ?_
    refine OD.nil ?_
    refine CD.seq ?_
    refine CD.seq ?_
    refine CD.region ?_
    refine OD.still (wants_plain rfl) rfl (still_mv rfl ot) ?_
    refine OD.wk (Wk.as_ (n := 69) (l' := [(2, _), (5, _), (6, _), (19, _)]) (S' := [⟨b3, 3, 1, [_]⟩, ⟨b2, 47, 4, [_, _, _, _]⟩]) rfl rfl ⟨lk, lk, lk, lk, trivial⟩) ?_
    refine OD.nil ?_
    refine CD.block ?_
    refine CD.seq ?_
    refine CD.region ?_
    refine OD.still (wants_plain rfl) rfl (still_bin rfl ot opd_const bin_eql) ?_
    refine OD.still (wants_plain rfl) rfl (still_as rfl ot) ?_
    refine OD.wk (Wk.as_ (n := 69) (l' := [(2, _), (5, _), (6, _), (19, _), (20, _)]) (S' := [⟨b3, 3, 1, [_]⟩, ⟨b2, 47, 4, [_, _, _, _]⟩]) rfl rfl ⟨lk, lk, lk, lk, lk, trivial⟩) ?_
    refine OD.nil ?_
    refine CD.cond ot (fun hc1 => ?_) (fun hc1 => ?_)
    · have hc1' := hc1
      (try simp only [decide_eq_true_eq, decide_eq_false_iff_not, beq_iff_eq, bne_iff_ne, Bool.not_eq_true', Bool.not_eq_false', Bool.not_eq_true, Bool.not_eq_false, beq_eq_false_iff_ne, ne_eq, bne_eq_false_iff_eq, Bool.and_eq_true, Bool.or_eq_true, Bool.not_not, Bool.and_eq_false_iff, Bool.or_eq_false_iff, Int.not_lt, Int.not_le] at hc1')
      refine CD.seq ?_
      refine CD.draw (bks _) (by kernel_rfl) (fun _ h => h) ?_
      refine AD0.take (i := 0) rfl (by kernel_rfl) (by kernel_rfl) (by kernel_rfl) (by repeat (first | exact NP.body | apply NP.then | apply NP.cut | apply NP.inBlock | apply NP.round)) (wants_plain rfl) rfl (still_r1 (mk := fun y => Op.fieldAddr 47 y 1) rfl ot (by first | exact fa_ptr (off := 1) Tryd.runUnderlying47 rfl Tryd.sizeOf3 rfl | exact fa_iptr (off := 1) Tryd.runUnderlying47 rfl Tryd.sizeOf3 rfl)) (by exact trivial) ?_
      refine AD0.take (i := 1) rfl (by kernel_rfl) (by kernel_rfl) (by kernel_rfl) (by repeat (first | exact NP.body | apply NP.then | apply NP.cut | apply NP.inBlock | apply NP.round)) (wants_plain rfl) rfl (still_r1 (mk := Op.load 3) rfl ot (by first | exact ld_blk (k := 1) rfl rfl Tryd.isAgg3 rfl | exact ld_i Tryd.isAgg3 rfl)) (by first | exact trivial | exact safe_blk (k0 := 0) rfl rfl | exact safe_blk (k0 := 1) rfl rfl) ?_
      refine AD0.take (i := 2) rfl (by kernel_rfl) (by kernel_rfl) (by kernel_rfl) (by repeat (first | exact NP.body | apply NP.then | apply NP.cut | apply NP.inBlock | apply NP.round)) (wants_plain rfl) rfl (still_r1 (mk := fun y => Op.fieldAddr 47 y 1) rfl ot (by first | exact fa_ptr (off := 1) Tryd.runUnderlying47 rfl Tryd.sizeOf3 rfl | exact fa_iptr (off := 1) Tryd.runUnderlying47 rfl Tryd.sizeOf3 rfl)) (by exact trivial) ?_
      refine AD0.take (i := 3) rfl (by kernel_rfl) (by kernel_rfl) (by kernel_rfl) (by repeat (first | exact NP.body | apply NP.then | apply NP.cut | apply NP.inBlock | apply NP.round)) (wants_plain rfl) rfl (still_r1 (mk := Op.load 3) rfl ot (by first | exact ld_blk (k := 1) rfl rfl Tryd.isAgg3 rfl | exact ld_i Tryd.isAgg3 rfl)) (by first | exact trivial | exact safe_blk (k0 := 0) rfl rfl | exact safe_blk (k0 := 1) rfl rfl) ?_
      refine AD0.take (i := 6) rfl (by kernel_rfl) (by kernel_rfl) (by kernel_rfl) (by repeat (first | exact NP.body | apply NP.then | apply NP.cut | apply NP.inBlock | apply NP.round)) (wants_plain rfl) rfl (still_r1 (mk := fun y => Op.fieldAddr 47 y 2) rfl ot (by first | exact fa_ptr (off := 2) Tryd.runUnderlying47 rfl Tryd.sizeOf9 rfl | exact fa_iptr (off := 2) Tryd.runUnderlying47 rfl Tryd.sizeOf9 rfl)) (by exact trivial) ?_
      refine AD0.take (i := 7) rfl (by kernel_rfl) (by kernel_rfl) (by kernel_rfl) (by repeat (first | exact NP.body | apply NP.then | apply NP.cut | apply NP.inBlock | apply NP.round)) (wants_plain rfl) rfl (still_r1 (mk := Op.load 9) rfl ot (by first | exact ld_blk (k := 1) rfl rfl Tryd.isAgg9 rfl | exact ld_i Tryd.isAgg9 rfl)) (by first | exact trivial | exact safe_blk (k0 := 0) rfl rfl | exact safe_blk (k0 := 1) rfl rfl) ?_
      refine AD0.later rfl ?_
      refine AD.two (i := 4) (j := 10) (by kernel_rfl) ?_ ?_
      · skip
        refine AStep.callP rfl (wants_plain rfl) rfl rfl rfl Tryd.call15 (picked_vp G n 40 hn1 hn2 (by decide)) ⟨ot, opd_const, trivial⟩ ?_
        refine AD.take (i := 5) rfl (by kernel_rfl) (by kernel_rfl) (by kernel_rfl) (by repeat (first | exact NP.body | apply NP.then | apply NP.cut | apply NP.inBlock | apply NP.round)) (wants_plain rfl) rfl (still_bin rfl ot opd_const (bin_sub (wrap_i64 (by omega) (by omega)))) (by exact trivial) (by intro h; cases h) ?_
        refine AD.take (i := 8) rfl (by kernel_rfl) (by kernel_rfl) (by kernel_rfl) (by repeat (first | exact NP.body | apply NP.then | apply NP.cut | apply NP.inBlock | apply NP.round)) (wants_plain rfl) rfl (still_bld (pl := [(0, _), (1, _), (2, _)]) (ds := [_, _, _]) rfl Tryd.zeroValue65 Tryd.runUnderlying65 places65_Nm5 ⟨rfl, ot, rfl, ot, rfl, ot, trivial⟩ rfl rfl) (by exact trivial) (by intro h; cases h) ?_
        refine AD.two (i := 9) (j := 10) (by kernel_rfl) ?_ ?_
        · skip
          refine AStep.callP rfl (wants_plain rfl) rfl rfl rfl Tryd.call27 (value_vp ⟨n, pickedF n 40 - 20, s⟩ hvo) ⟨ot, trivial⟩ ?_
          refine AD.one (i := 10) (by kernel_rfl) ?_
          refine AStep.alloc (ds := [_, _, _]) rfl (wants_plain rfl) rfl rfl Tryd.zeroValue30 rfl (fun b7 => ?_)
          refine AD.one (i := 11) (by kernel_rfl) ?_
          refine AStep.store (k := 0) (cs' := [_, _, _]) rfl (wants_plain rfl) rfl rfl ot rfl rfl ot rfl rfl Tryd.sizeOf30 rfl rfl rfl (by intro b hb; simp [bks, St.put] at hb ⊢; try first | exact hb | simp [hb] | (rcases hb with hb | hb <;> simp [hb]) | (rcases hb with hb | hb | hb <;> simp [hb])) ?_
          refine AD.wk (y := ⟨69, [(5, _), (7, _)], [⟨b7, 30, 3, [_, _, _]⟩, ⟨b3, 3, 1, [_]⟩, ⟨b2, 47, 4, [_, _, _, _]⟩]⟩) (Wk.as_ rfl rfl ⟨lk, lk, trivial⟩) rfl ?_
          refine AD.done (by kernel_rfl) ?_
          refine CD.seq ?_
          refine CD.region ?_
          refine OD.still (wants_plain rfl) rfl (still_r1 (mk := fun y => Op.fieldAddr 30 y 2) rfl ot (by first | exact fa_ptr (off := 2) Tryd.runUnderlying30 rfl Tryd.sizeOf9 rfl | exact fa_iptr (off := 2) Tryd.runUnderlying30 rfl Tryd.sizeOf9 rfl)) ?_
          refine OD.still (wants_plain rfl) rfl (still_r1 (mk := Op.load 9) rfl ot (by first | exact ld_blk (k := 0) rfl rfl Tryd.isAgg9 rfl | exact ld_i Tryd.isAgg9 rfl)) ?_
          refine OD.callP (wants_plain rfl) rfl rfl rfl Tryd.call28 (cut_vp (valueF ⟨n, pickedF n 40 - 20, s⟩).s 4 (by omega)) ⟨ot, opd_const, trivial⟩ ?_
          refine OD.still (wants_plain rfl) rfl (still_r1 (mk := fun y => Op.fieldAddr 30 y 2) rfl ot (by first | exact fa_ptr (off := 2) Tryd.runUnderlying30 rfl Tryd.sizeOf9 rfl | exact fa_iptr (off := 2) Tryd.runUnderlying30 rfl Tryd.sizeOf9 rfl)) ?_
          refine OD.store (k := 0) (cs' := [_, _, _]) (wants_plain rfl) rfl rfl ot rfl rfl ot rfl rfl Tryd.sizeOf9 rfl rfl rfl ?_
          refine OD.wk (Wk.as_ (n := 69) (l' := [(5, _), (7, _)]) (S' := [⟨b7, 30, 3, [_, _, _]⟩, ⟨b3, 3, 1, [_]⟩, ⟨b2, 47, 4, [_, _, _, _]⟩]) rfl rfl ⟨lk, lk, trivial⟩) ?_
          refine OD.nil ?_
          refine CD.seq ?_
          refine CD.region ?_
          refine OD.still (wants_plain rfl) rfl (still_mv rfl ot) ?_
          refine OD.still (wants_plain rfl) rfl (still_r1 (mk := Op.load 30) rfl ot (by first | exact ld_blks (k := 0) (ds := [_, _, _]) rfl rfl Tryd.isAgg30 Tryd.sizeOf30 rfl rfl | exact ld_is (ds := [_, _, _]) Tryd.isAgg30 Tryd.sizeOf30 rfl rfl)) ?_
          refine OD.still (wants_plain rfl) rfl (still_bld (pl := [(0, _), (1, _)]) (ds := [_, _, _, _, _]) rfl Tryd.zeroValue52 Tryd.runUnderlying52 places52_Nm5 ⟨rfl, ot, rfl, ot, trivial⟩ rfl rfl) ?_
          refine OD.bldS (pl := [(0, _)]) (zvs := [.int .i64 0, .int .i64 0, .int .i64 0, .string ⟨#[]⟩, .string ⟨#[]⟩]) (ds := [_, _, _, _, _]) (wants_plain rfl) rfl rfl Tryd.zeroValue52 Tryd.runUnderlying48 Tryd.sizeOf52 rfl rfl (by kernel_rfl) ⟨rfl, ot, trivial⟩ rfl rfl (fun b39 => ?_)
          refine OD.still (wants_plain rfl) rfl (still_as rfl ot) ?_
          refine OD.wk (Wk.as_ (n := 69) (l' := [(4, _)]) (S' := [⟨b39, 52, 5, [_, _, _, _, _]⟩, ⟨b7, 30, 3, [_, _, _]⟩, ⟨b3, 3, 1, [_]⟩, ⟨b2, 47, 4, [_, _, _, _]⟩]) rfl rfl ⟨lk, trivial⟩) ?_
          refine OD.nil ?_
          refine CD.ret ?_
          refine ⟨.inr rfl, _, [_], (List.Sublist.cons_cons _ (List.nil_sublist _)), ret_one Tryd.results36 (res_tmp (Nat.le_of_ble_eq_true rfl) lk), ?_⟩
          first | exact RetL.cast (RetL.mk (g := cO) (e := 52) (sz := 5) (ls := [(⟨kk, litV n s, ⟨#[]⟩⟩ : OpL)]) (ownL_row (ls := [(⟨kk, litV n s, ⟨#[]⟩⟩ : OpL)]) (Nat.le_refl _) (show 1 ≤ maxLen by decide))) (by rw [ops_step, hkk, if_pos (by omega)]; unfold litOp; rw [show kk = 1 by omega]) | exact RetL.cast (RetL.mk (g := cO) (e := 52) (sz := 5) (ls := [(⟨kk, noVl, nameC (j : Int)⟩ : OpL)]) (ownL_row (ls := [(⟨kk, noVl, nameC (j : Int)⟩ : OpL)]) (Nat.le_refl _) (show 1 ≤ maxLen by decide))) (by rw [ops_step, hkk, if_neg (by omega), if_pos (by omega)]; unfold colOp; rw [hj, show kk = 2 by omega])
        · skip
          refine AStep.alloc (ds := [_, _, _]) rfl (wants_plain rfl) rfl rfl Tryd.zeroValue30 rfl (fun b7 => ?_)
          refine AD.one (i := 9) (by kernel_rfl) ?_
          refine AStep.callP rfl (wants_plain rfl) rfl rfl rfl Tryd.call27 (value_vp ⟨n, pickedF n 40 - 20, s⟩ hvo) ⟨ot, trivial⟩ ?_
          refine AD.one (i := 11) (by kernel_rfl) ?_
          refine AStep.store (k := 0) (cs' := [_, _, _]) rfl (wants_plain rfl) rfl rfl ot rfl rfl ot rfl rfl Tryd.sizeOf30 rfl rfl rfl (by intro b hb; simp [bks, St.put] at hb ⊢; try first | exact hb | simp [hb] | (rcases hb with hb | hb <;> simp [hb]) | (rcases hb with hb | hb | hb <;> simp [hb])) ?_
          refine AD.wk (y := ⟨69, [(5, _), (7, _)], [⟨b7, 30, 3, [_, _, _]⟩, ⟨b3, 3, 1, [_]⟩, ⟨b2, 47, 4, [_, _, _, _]⟩]⟩) (Wk.as_ rfl rfl ⟨lk, lk, trivial⟩) rfl ?_
          refine AD.done (by kernel_rfl) ?_
          refine CD.seq ?_
          refine CD.region ?_
          refine OD.still (wants_plain rfl) rfl (still_r1 (mk := fun y => Op.fieldAddr 30 y 2) rfl ot (by first | exact fa_ptr (off := 2) Tryd.runUnderlying30 rfl Tryd.sizeOf9 rfl | exact fa_iptr (off := 2) Tryd.runUnderlying30 rfl Tryd.sizeOf9 rfl)) ?_
          refine OD.still (wants_plain rfl) rfl (still_r1 (mk := Op.load 9) rfl ot (by first | exact ld_blk (k := 0) rfl rfl Tryd.isAgg9 rfl | exact ld_i Tryd.isAgg9 rfl)) ?_
          refine OD.callP (wants_plain rfl) rfl rfl rfl Tryd.call28 (cut_vp (valueF ⟨n, pickedF n 40 - 20, s⟩).s 4 (by omega)) ⟨ot, opd_const, trivial⟩ ?_
          refine OD.still (wants_plain rfl) rfl (still_r1 (mk := fun y => Op.fieldAddr 30 y 2) rfl ot (by first | exact fa_ptr (off := 2) Tryd.runUnderlying30 rfl Tryd.sizeOf9 rfl | exact fa_iptr (off := 2) Tryd.runUnderlying30 rfl Tryd.sizeOf9 rfl)) ?_
          refine OD.store (k := 0) (cs' := [_, _, _]) (wants_plain rfl) rfl rfl ot rfl rfl ot rfl rfl Tryd.sizeOf9 rfl rfl rfl ?_
          refine OD.wk (Wk.as_ (n := 69) (l' := [(5, _), (7, _)]) (S' := [⟨b7, 30, 3, [_, _, _]⟩, ⟨b3, 3, 1, [_]⟩, ⟨b2, 47, 4, [_, _, _, _]⟩]) rfl rfl ⟨lk, lk, trivial⟩) ?_
          refine OD.nil ?_
          refine CD.seq ?_
          refine CD.region ?_
          refine OD.still (wants_plain rfl) rfl (still_mv rfl ot) ?_
          refine OD.still (wants_plain rfl) rfl (still_r1 (mk := Op.load 30) rfl ot (by first | exact ld_blks (k := 0) (ds := [_, _, _]) rfl rfl Tryd.isAgg30 Tryd.sizeOf30 rfl rfl | exact ld_is (ds := [_, _, _]) Tryd.isAgg30 Tryd.sizeOf30 rfl rfl)) ?_
          refine OD.still (wants_plain rfl) rfl (still_bld (pl := [(0, _), (1, _)]) (ds := [_, _, _, _, _]) rfl Tryd.zeroValue52 Tryd.runUnderlying52 places52_Nm5 ⟨rfl, ot, rfl, ot, trivial⟩ rfl rfl) ?_
          refine OD.bldS (pl := [(0, _)]) (zvs := [.int .i64 0, .int .i64 0, .int .i64 0, .string ⟨#[]⟩, .string ⟨#[]⟩]) (ds := [_, _, _, _, _]) (wants_plain rfl) rfl rfl Tryd.zeroValue52 Tryd.runUnderlying48 Tryd.sizeOf52 rfl rfl (by kernel_rfl) ⟨rfl, ot, trivial⟩ rfl rfl (fun b39 => ?_)
          refine OD.still (wants_plain rfl) rfl (still_as rfl ot) ?_
          refine OD.wk (Wk.as_ (n := 69) (l' := [(4, _)]) (S' := [⟨b39, 52, 5, [_, _, _, _, _]⟩, ⟨b7, 30, 3, [_, _, _]⟩, ⟨b3, 3, 1, [_]⟩, ⟨b2, 47, 4, [_, _, _, _]⟩]) rfl rfl ⟨lk, trivial⟩) ?_
          refine OD.nil ?_
          refine CD.ret ?_
          refine ⟨.inr rfl, _, [_], (List.Sublist.cons_cons _ (List.nil_sublist _)), ret_one Tryd.results36 (res_tmp (Nat.le_of_ble_eq_true rfl) lk), ?_⟩
          first | exact RetL.cast (RetL.mk (g := cO) (e := 52) (sz := 5) (ls := [(⟨kk, litV n s, ⟨#[]⟩⟩ : OpL)]) (ownL_row (ls := [(⟨kk, litV n s, ⟨#[]⟩⟩ : OpL)]) (Nat.le_refl _) (show 1 ≤ maxLen by decide))) (by rw [ops_step, hkk, if_pos (by omega)]; unfold litOp; rw [show kk = 1 by omega]) | exact RetL.cast (RetL.mk (g := cO) (e := 52) (sz := 5) (ls := [(⟨kk, noVl, nameC (j : Int)⟩ : OpL)]) (ownL_row (ls := [(⟨kk, noVl, nameC (j : Int)⟩ : OpL)]) (Nat.le_refl _) (show 1 ≤ maxLen by decide))) (by rw [ops_step, hkk, if_neg (by omega), if_pos (by omega)]; unfold colOp; rw [hj, show kk = 2 by omega])
      · skip
        refine AStep.alloc (ds := [_, _, _]) rfl (wants_plain rfl) rfl rfl Tryd.zeroValue30 rfl (fun b7 => ?_)
        refine AD.one (i := 4) (by kernel_rfl) ?_
        refine AStep.callP rfl (wants_plain rfl) rfl rfl rfl Tryd.call15 (picked_vp G n 40 hn1 hn2 (by decide)) ⟨ot, opd_const, trivial⟩ ?_
        refine AD.take (i := 5) rfl (by kernel_rfl) (by kernel_rfl) (by kernel_rfl) (by repeat (first | exact NP.body | apply NP.then | apply NP.cut | apply NP.inBlock | apply NP.round)) (wants_plain rfl) rfl (still_bin rfl ot opd_const (bin_sub (wrap_i64 (by omega) (by omega)))) (by exact trivial) (by intro h; cases h) ?_
        refine AD.take (i := 8) rfl (by kernel_rfl) (by kernel_rfl) (by kernel_rfl) (by repeat (first | exact NP.body | apply NP.then | apply NP.cut | apply NP.inBlock | apply NP.round)) (wants_plain rfl) rfl (still_bld (pl := [(0, _), (1, _), (2, _)]) (ds := [_, _, _]) rfl Tryd.zeroValue65 Tryd.runUnderlying65 places65_Nm5 ⟨rfl, ot, rfl, ot, rfl, ot, trivial⟩ rfl rfl) (by exact trivial) (by intro h; cases h) ?_
        refine AD.one (i := 9) (by kernel_rfl) ?_
        refine AStep.callP rfl (wants_plain rfl) rfl rfl rfl Tryd.call27 (value_vp ⟨n, pickedF n 40 - 20, s⟩ hvo) ⟨ot, trivial⟩ ?_
        refine AD.one (i := 11) (by kernel_rfl) ?_
        refine AStep.store (k := 0) (cs' := [_, _, _]) rfl (wants_plain rfl) rfl rfl ot rfl rfl ot rfl rfl Tryd.sizeOf30 rfl rfl rfl (by intro b hb; simp [bks, St.put] at hb ⊢; try first | exact hb | simp [hb] | (rcases hb with hb | hb <;> simp [hb]) | (rcases hb with hb | hb | hb <;> simp [hb])) ?_
        refine AD.wk (y := ⟨69, [(5, _), (7, _)], [⟨b7, 30, 3, [_, _, _]⟩, ⟨b3, 3, 1, [_]⟩, ⟨b2, 47, 4, [_, _, _, _]⟩]⟩) (Wk.as_ rfl rfl ⟨lk, lk, trivial⟩) rfl ?_
        refine AD.done (by kernel_rfl) ?_
        refine CD.seq ?_
        refine CD.region ?_
        refine OD.still (wants_plain rfl) rfl (still_r1 (mk := fun y => Op.fieldAddr 30 y 2) rfl ot (by first | exact fa_ptr (off := 2) Tryd.runUnderlying30 rfl Tryd.sizeOf9 rfl | exact fa_iptr (off := 2) Tryd.runUnderlying30 rfl Tryd.sizeOf9 rfl)) ?_
        refine OD.still (wants_plain rfl) rfl (still_r1 (mk := Op.load 9) rfl ot (by first | exact ld_blk (k := 0) rfl rfl Tryd.isAgg9 rfl | exact ld_i Tryd.isAgg9 rfl)) ?_
        refine OD.callP (wants_plain rfl) rfl rfl rfl Tryd.call28 (cut_vp (valueF ⟨n, pickedF n 40 - 20, s⟩).s 4 (by omega)) ⟨ot, opd_const, trivial⟩ ?_
        refine OD.still (wants_plain rfl) rfl (still_r1 (mk := fun y => Op.fieldAddr 30 y 2) rfl ot (by first | exact fa_ptr (off := 2) Tryd.runUnderlying30 rfl Tryd.sizeOf9 rfl | exact fa_iptr (off := 2) Tryd.runUnderlying30 rfl Tryd.sizeOf9 rfl)) ?_
        refine OD.store (k := 0) (cs' := [_, _, _]) (wants_plain rfl) rfl rfl ot rfl rfl ot rfl rfl Tryd.sizeOf9 rfl rfl rfl ?_
        refine OD.wk (Wk.as_ (n := 69) (l' := [(5, _), (7, _)]) (S' := [⟨b7, 30, 3, [_, _, _]⟩, ⟨b3, 3, 1, [_]⟩, ⟨b2, 47, 4, [_, _, _, _]⟩]) rfl rfl ⟨lk, lk, trivial⟩) ?_
        refine OD.nil ?_
        refine CD.seq ?_
        refine CD.region ?_
        refine OD.still (wants_plain rfl) rfl (still_mv rfl ot) ?_
        refine OD.still (wants_plain rfl) rfl (still_r1 (mk := Op.load 30) rfl ot (by first | exact ld_blks (k := 0) (ds := [_, _, _]) rfl rfl Tryd.isAgg30 Tryd.sizeOf30 rfl rfl | exact ld_is (ds := [_, _, _]) Tryd.isAgg30 Tryd.sizeOf30 rfl rfl)) ?_
        refine OD.still (wants_plain rfl) rfl (still_bld (pl := [(0, _), (1, _)]) (ds := [_, _, _, _, _]) rfl Tryd.zeroValue52 Tryd.runUnderlying52 places52_Nm5 ⟨rfl, ot, rfl, ot, trivial⟩ rfl rfl) ?_
        refine OD.bldS (pl := [(0, _)]) (zvs := [.int .i64 0, .int .i64 0, .int .i64 0, .string ⟨#[]⟩, .string ⟨#[]⟩]) (ds := [_, _, _, _, _]) (wants_plain rfl) rfl rfl Tryd.zeroValue52 Tryd.runUnderlying48 Tryd.sizeOf52 rfl rfl (by kernel_rfl) ⟨rfl, ot, trivial⟩ rfl rfl (fun b39 => ?_)
        refine OD.still (wants_plain rfl) rfl (still_as rfl ot) ?_
        refine OD.wk (Wk.as_ (n := 69) (l' := [(4, _)]) (S' := [⟨b39, 52, 5, [_, _, _, _, _]⟩, ⟨b7, 30, 3, [_, _, _]⟩, ⟨b3, 3, 1, [_]⟩, ⟨b2, 47, 4, [_, _, _, _]⟩]) rfl rfl ⟨lk, trivial⟩) ?_
        refine OD.nil ?_
        refine CD.ret ?_
        refine ⟨.inr rfl, _, [_], (List.Sublist.cons_cons _ (List.nil_sublist _)), ret_one Tryd.results36 (res_tmp (Nat.le_of_ble_eq_true rfl) lk), ?_⟩
        first | exact RetL.cast (RetL.mk (g := cO) (e := 52) (sz := 5) (ls := [(⟨kk, litV n s, ⟨#[]⟩⟩ : OpL)]) (ownL_row (ls := [(⟨kk, litV n s, ⟨#[]⟩⟩ : OpL)]) (Nat.le_refl _) (show 1 ≤ maxLen by decide))) (by rw [ops_step, hkk, if_pos (by omega)]; unfold litOp; rw [show kk = 1 by omega]) | exact RetL.cast (RetL.mk (g := cO) (e := 52) (sz := 5) (ls := [(⟨kk, noVl, nameC (j : Int)⟩ : OpL)]) (ownL_row (ls := [(⟨kk, noVl, nameC (j : Int)⟩ : OpL)]) (Nat.le_refl _) (show 1 ≤ maxLen by decide))) (by rw [ops_step, hkk, if_neg (by omega), if_pos (by omega)]; unfold colOp; rw [hj, show kk = 2 by omega])
    · have hc1' := hc1
      (try simp only [decide_eq_true_eq, decide_eq_false_iff_not, beq_iff_eq, bne_iff_ne, Bool.not_eq_true', Bool.not_eq_false', Bool.not_eq_true, Bool.not_eq_false, beq_eq_false_iff_ne, ne_eq, bne_eq_false_iff_eq, Bool.and_eq_true, Bool.or_eq_true, Bool.not_not, Bool.and_eq_false_iff, Bool.or_eq_false_iff, Int.not_lt, Int.not_le] at hc1')
      refine CD.seq ?_
      refine CD.region ?_
      refine OD.still (wants_plain rfl) rfl (still_bin rfl ot opd_const bin_eql) ?_
      refine OD.still (wants_plain rfl) rfl (still_as rfl ot) ?_
      refine OD.wk (Wk.as_ (n := 69) (l' := [(2, _), (5, _), (6, _), (19, _), (40, _)]) (S' := [⟨b3, 3, 1, [_]⟩, ⟨b2, 47, 4, [_, _, _, _]⟩]) rfl rfl ⟨lk, lk, lk, lk, lk, trivial⟩) ?_
      refine OD.nil ?_
      refine CD.cond ot (fun hc2 => ?_) (fun hc2 => ?_)
      · have hc2' := hc2
        (try simp only [decide_eq_true_eq, decide_eq_false_iff_not, beq_iff_eq, bne_iff_ne, Bool.not_eq_true', Bool.not_eq_false', Bool.not_eq_true, Bool.not_eq_false, beq_eq_false_iff_ne, ne_eq, bne_eq_false_iff_eq, Bool.and_eq_true, Bool.or_eq_true, Bool.not_not, Bool.and_eq_false_iff, Bool.or_eq_false_iff, Int.not_lt, Int.not_le] at hc2')
        refine CD.seq ?_
        refine CD.region ?_
        refine OD.still (wants_plain rfl) rfl (still_mv rfl ot) ?_
        refine OD.bldS (pl := [(0, _), (1, _), (2, _), (3, _)]) (zvs := [.string ⟨#[]⟩, .string ⟨#[]⟩, .string ⟨#[]⟩, .string ⟨#[]⟩]) (ds := [_, _, _, _]) (wants_plain rfl) rfl rfl Tryd.zeroValue9 Tryd.runUnderlying41 Tryd.sizeOf9 rfl rfl (by kernel_rfl) ⟨rfl, opd_const, rfl, opd_const, rfl, opd_const, rfl, opd_const, trivial⟩ rfl rfl (fun b43 => ?_)
        refine OD.give (k := 0) (t := 43) (sz := 1) (m := 4) rfl lk rfl rfl rfl (Nat.le_refl _) (by decide) ?_
        refine OD.still (wants_plain rfl) rfl (still_r1 (mk := fun y => Op.fieldAddr 47 y 1) rfl ot (by first | exact fa_ptr (off := 1) Tryd.runUnderlying47 rfl Tryd.sizeOf3 rfl | exact fa_iptr (off := 1) Tryd.runUnderlying47 rfl Tryd.sizeOf3 rfl)) ?_
        refine OD.still (wants_plain rfl) rfl (still_r1 (mk := Op.load 3) rfl ot (by first | exact ld_blk (k := 1) rfl rfl Tryd.isAgg3 rfl | exact ld_i Tryd.isAgg3 rfl)) ?_
        refine OD.callP (wants_plain rfl) rfl rfl rfl Tryd.call15 (hpkn) ⟨ot, opd_const, trivial⟩ ?_
        refine OD.still (wants_plain rfl) rfl (still_r2 (mk := Op.indexAddr 41) rfl ot ot (by first | exact ix_list Tryd.runUnderlying41 Tryd.sizeOf9 rfl (by first | assumption | omega) | exact ix_list (j := Int.toNat _) Tryd.runUnderlying41 Tryd.sizeOf9 (Int.toNat_of_nonneg (by omega)).symm (by omega) | exact ix_row Tryd.runUnderlying41 Tryd.sizeOf9 rfl (by first | assumption | omega) | exact ix_row (j := Int.toNat _) Tryd.runUnderlying41 Tryd.sizeOf9 (Int.toNat_of_nonneg (by omega)).symm (by omega))) ?_
        refine OD.still (wants_plain rfl) rfl (still_r1 (mk := Op.load 9) rfl ot (ld_i Tryd.isAgg9 (name_at hj4))) ?_
        refine OD.still (wants_plain rfl) rfl (still_bld (pl := [(0, _), (2, _)]) (ds := [_, _, _, _, _]) rfl Tryd.zeroValue52 Tryd.runUnderlying52 places52_Nm5 ⟨rfl, ot, rfl, ot, trivial⟩ rfl rfl) ?_
        refine OD.bldS (pl := [(0, _)]) (zvs := [.int .i64 0, .int .i64 0, .int .i64 0, .string ⟨#[]⟩, .string ⟨#[]⟩]) (ds := [_, _, _, _, _]) (wants_plain rfl) rfl rfl Tryd.zeroValue52 Tryd.runUnderlying48 Tryd.sizeOf52 rfl rfl (by kernel_rfl) ⟨rfl, ot, trivial⟩ rfl rfl (fun b50 => ?_)
        refine OD.still (wants_plain rfl) rfl (still_as rfl ot) ?_
        refine OD.wk (Wk.as_ (n := 69) (l' := [(4, _)]) (S' := [⟨b50, 52, 5, [_, _, _, _, _]⟩, ⟨b3, 3, 1, [_]⟩, ⟨b2, 47, 4, [_, _, _, _]⟩]) rfl rfl ⟨lk, trivial⟩) ?_
        refine OD.nil ?_
        refine CD.ret ?_
        refine ⟨.inr rfl, _, [_], (List.Sublist.cons_cons _ (List.nil_sublist _)), ret_one Tryd.results36 (res_tmp (Nat.le_of_ble_eq_true rfl) lk), ?_⟩
        first | exact RetL.cast (RetL.mk (g := cO) (e := 52) (sz := 5) (ls := [(⟨kk, litV n s, ⟨#[]⟩⟩ : OpL)]) (ownL_row (ls := [(⟨kk, litV n s, ⟨#[]⟩⟩ : OpL)]) (Nat.le_refl _) (show 1 ≤ maxLen by decide))) (by rw [ops_step, hkk, if_pos (by omega)]; unfold litOp; rw [show kk = 1 by omega]) | exact RetL.cast (RetL.mk (g := cO) (e := 52) (sz := 5) (ls := [(⟨kk, noVl, nameC (j : Int)⟩ : OpL)]) (ownL_row (ls := [(⟨kk, noVl, nameC (j : Int)⟩ : OpL)]) (Nat.le_refl _) (show 1 ≤ maxLen by decide))) (by rw [ops_step, hkk, if_neg (by omega), if_pos (by omega)]; unfold colOp; rw [hj, show kk = 2 by omega])
      · have hc2' := hc2
        (try simp only [decide_eq_true_eq, decide_eq_false_iff_not, beq_iff_eq, bne_iff_ne, Bool.not_eq_true', Bool.not_eq_false', Bool.not_eq_true, Bool.not_eq_false, beq_eq_false_iff_ne, ne_eq, bne_eq_false_iff_eq, Bool.and_eq_true, Bool.or_eq_true, Bool.not_not, Bool.and_eq_false_iff, Bool.or_eq_false_iff, Int.not_lt, Int.not_le] at hc2')
        refine CD.seq ?_
        refine CD.seq ?_
        refine CD.region ?_
        refine OD.still (wants_plain rfl) rfl (still_bin rfl ot opd_const bin_eql) ?_
        refine OD.still (wants_plain rfl) rfl (still_as rfl ot) ?_
        refine OD.wk (Wk.as_ (n := 69) (l' := [(5, _), (6, _), (19, _), (51, _)]) (S' := [⟨b3, 3, 1, [_]⟩, ⟨b2, 47, 4, [_, _, _, _]⟩]) rfl rfl ⟨lk, lk, lk, lk, trivial⟩) ?_
        refine OD.nil ?_
        refine CD.cond ot (fun hc3 => ?_) (fun hc3 => ?_)
        · have hc3' := hc3
          (try simp only [decide_eq_true_eq, decide_eq_false_iff_not, beq_iff_eq, bne_iff_ne, Bool.not_eq_true', Bool.not_eq_false', Bool.not_eq_true, Bool.not_eq_false, beq_eq_false_iff_ne, ne_eq, bne_eq_false_iff_eq, Bool.and_eq_true, Bool.or_eq_true, Bool.not_not, Bool.and_eq_false_iff, Bool.or_eq_false_iff, Int.not_lt, Int.not_le] at hc3')
          refine CD.skip ?_
          refine CD.condT ot (by first | rfl | assumption) ?_
          refine CD.seq ?_
          refine CD.region ?_
          refine OD.still (wants_plain rfl) rfl (still_mv rfl ot) ?_
          refine OD.callv (f := 53) (args := [_]) (all := [_, _, _]) (Sf := [_, _]) (R := []) (wants_plain rfl) rfl rfl ot Tryd.call53 (in_vc r k n d s ts 0 b2 b3 IH hn1 hn2 hs hd1 hd (by decide)) rfl ⟨opd_const, trivial⟩ (List.Perm.refl _) ?_
          rintro _ _ ⟨S55, ⟨ad55, cp55, rfl, ho55⟩, rfl⟩
          refine OD.perm (perm_p11 (A := [_, _])) ?_
          refine OD.still (wants_plain rfl) rfl (still_mv rfl ot) ?_
          refine OD.still (wants_plain rfl) rfl (still_bld (pl := [(0, _)]) (ds := [_, _, _, _, _]) rfl Tryd.zeroValue52 Tryd.runUnderlying52 places52_Nm5 ⟨rfl, ot, trivial⟩ rfl rfl) ?_
          refine OD.bldS (pl := [(0, _)]) (zvs := [.int .i64 0, .int .i64 0, .int .i64 0, .string ⟨#[]⟩, .string ⟨#[]⟩]) (ds := [_, _, _, _, _]) (wants_plain rfl) rfl rfl Tryd.zeroValue52 Tryd.runUnderlying48 Tryd.sizeOf52 rfl rfl (by kernel_rfl) ⟨rfl, ot, trivial⟩ rfl rfl (fun b58 => ?_)
          refine OD.give (k := 0) (t := 58) (sz := 5) (m := 1) rfl lk rfl rfl rfl (Nat.le_refl _) (by decide) ?_
          refine OD.appendG (ls := (subO r ts n s 0)) (new := [(⟨kk, noVl, ⟨#[]⟩⟩ : OpL)]) (Sq := S55) cO_len cO_one (wants_plain rfl) rfl rfl Tryd.underlying48 info52_Nm5 rfl (by decide) ot ho55 (perm_r11 (A := [_, _])) ot (by simp) (by have hmx : maxLen = 9223372036854775807 := rfl; (try simp only [List.length_append, List.length_cons, List.length_nil]); omega) (by have hmx : maxLen = 9223372036854775807 := rfl; (try simp only [List.length_append, List.length_cons, List.length_nil]); omega) (fun b59 cp59 h159 h259 => ?_)
          refine OD.perm (perm_q11 (S1 := [⟨b59, 52, cp59 * 5, ((subO r ts n s 0) ++ [(⟨kk, noVl, ⟨#[]⟩⟩ : OpL)]).flatMap cO⟩]) (A := [_, _])) ?_
          refine OD.still (wants_plain rfl) rfl (still_as rfl ot) ?_
          refine OD.wk (Wk.as_ (n := 69) (l' := [(4, _)]) (S' := (⟨b3, 3, 1, [_]⟩ :: ⟨b2, 47, 4, [_, _, _, _]⟩ :: [⟨b59, 52, cp59 * 5, ((subO r ts n s 0) ++ [(⟨kk, noVl, ⟨#[]⟩⟩ : OpL)]).flatMap cO⟩])) rfl rfl ⟨lk, trivial⟩) ?_
          refine OD.nil ?_
          refine CD.ret ?_
          refine ⟨.inr rfl, _, [⟨b59, 52, cp59 * 5, ((subO r ts n s 0) ++ [(⟨kk, noVl, ⟨#[]⟩⟩ : OpL)]).flatMap cO⟩], (by repeat (first | exact List.Sublist.refl _ | apply List.Sublist.cons)), ret_one Tryd.results36 (res_tmp (Nat.le_of_ble_eq_true rfl) lk), ?_⟩
          exact RetL.cast (RetL.mk (ownL_row h159 h259)) (by rw [ops_step, hkk, if_neg (by omega), if_neg (by omega), if_pos (by omega)]; rfl)
        · have hc3' := hc3
          (try simp only [decide_eq_true_eq, decide_eq_false_iff_not, beq_iff_eq, bne_iff_ne, Bool.not_eq_true', Bool.not_eq_false', Bool.not_eq_true, Bool.not_eq_false, beq_eq_false_iff_ne, ne_eq, bne_eq_false_iff_eq, Bool.and_eq_true, Bool.or_eq_true, Bool.not_not, Bool.and_eq_false_iff, Bool.or_eq_false_iff, Int.not_lt, Int.not_le] at hc3')
          refine CD.region ?_
          refine OD.still (wants_plain rfl) rfl (still_bin rfl ot opd_const bin_eql) ?_
          refine OD.still (wants_plain rfl) rfl (still_as rfl ot) ?_
          refine OD.wk (Wk.as_ (n := 69) (l' := [(5, _), (6, _), (51, _)]) (S' := [⟨b3, 3, 1, [_]⟩, ⟨b2, 47, 4, [_, _, _, _]⟩]) rfl rfl ⟨lk, lk, lk, trivial⟩) ?_
          refine OD.nil ?_
          refine CD.cond ot (fun hc4 => ?_) (fun hc4 => ?_)
          · have hc4' := hc4
            (try simp only [decide_eq_true_eq, decide_eq_false_iff_not, beq_iff_eq, bne_iff_ne, Bool.not_eq_true', Bool.not_eq_false', Bool.not_eq_true, Bool.not_eq_false, beq_eq_false_iff_ne, ne_eq, bne_eq_false_iff_eq, Bool.and_eq_true, Bool.or_eq_true, Bool.not_not, Bool.and_eq_false_iff, Bool.or_eq_false_iff, Int.not_lt, Int.not_le] at hc4')
            refine CD.seq ?_
            refine CD.region ?_
            refine OD.still (wants_plain rfl) rfl (still_mv rfl ot) ?_
            refine OD.callv (f := 53) (args := [_]) (all := [_, _, _]) (Sf := [_, _]) (R := []) (wants_plain rfl) rfl rfl ot Tryd.call53 (in_vc r k n d s ts 0 b2 b3 IH hn1 hn2 hs hd1 hd (by decide)) rfl ⟨opd_const, trivial⟩ (List.Perm.refl _) ?_
            rintro _ _ ⟨S55, ⟨ad55, cp55, rfl, ho55⟩, rfl⟩
            refine OD.perm (perm_p11 (A := [_, _])) ?_
            refine OD.still (wants_plain rfl) rfl (still_mv rfl ot) ?_
            refine OD.still (wants_plain rfl) rfl (still_bld (pl := [(0, _)]) (ds := [_, _, _, _, _]) rfl Tryd.zeroValue52 Tryd.runUnderlying52 places52_Nm5 ⟨rfl, ot, trivial⟩ rfl rfl) ?_
            refine OD.bldS (pl := [(0, _)]) (zvs := [.int .i64 0, .int .i64 0, .int .i64 0, .string ⟨#[]⟩, .string ⟨#[]⟩]) (ds := [_, _, _, _, _]) (wants_plain rfl) rfl rfl Tryd.zeroValue52 Tryd.runUnderlying48 Tryd.sizeOf52 rfl rfl (by kernel_rfl) ⟨rfl, ot, trivial⟩ rfl rfl (fun b58 => ?_)
            refine OD.give (k := 0) (t := 58) (sz := 5) (m := 1) rfl lk rfl rfl rfl (Nat.le_refl _) (by decide) ?_
            refine OD.appendG (ls := (subO r ts n s 0)) (new := [(⟨kk, noVl, ⟨#[]⟩⟩ : OpL)]) (Sq := S55) cO_len cO_one (wants_plain rfl) rfl rfl Tryd.underlying48 info52_Nm5 rfl (by decide) ot ho55 (perm_r11 (A := [_, _])) ot (by simp) (by have hmx : maxLen = 9223372036854775807 := rfl; (try simp only [List.length_append, List.length_cons, List.length_nil]); omega) (by have hmx : maxLen = 9223372036854775807 := rfl; (try simp only [List.length_append, List.length_cons, List.length_nil]); omega) (fun b59 cp59 h159 h259 => ?_)
            refine OD.perm (perm_q11 (S1 := [⟨b59, 52, cp59 * 5, ((subO r ts n s 0) ++ [(⟨kk, noVl, ⟨#[]⟩⟩ : OpL)]).flatMap cO⟩]) (A := [_, _])) ?_
            refine OD.still (wants_plain rfl) rfl (still_as rfl ot) ?_
            refine OD.wk (Wk.as_ (n := 69) (l' := [(4, _)]) (S' := (⟨b3, 3, 1, [_]⟩ :: ⟨b2, 47, 4, [_, _, _, _]⟩ :: [⟨b59, 52, cp59 * 5, ((subO r ts n s 0) ++ [(⟨kk, noVl, ⟨#[]⟩⟩ : OpL)]).flatMap cO⟩])) rfl rfl ⟨lk, trivial⟩) ?_
            refine OD.nil ?_
            refine CD.ret ?_
            refine ⟨.inr rfl, _, [⟨b59, 52, cp59 * 5, ((subO r ts n s 0) ++ [(⟨kk, noVl, ⟨#[]⟩⟩ : OpL)]).flatMap cO⟩], (by repeat (first | exact List.Sublist.refl _ | apply List.Sublist.cons)), ret_one Tryd.results36 (res_tmp (Nat.le_of_ble_eq_true rfl) lk), ?_⟩
            exact RetL.cast (RetL.mk (ownL_row h159 h259)) (by rw [ops_step, hkk, if_neg (by omega), if_neg (by omega), if_pos (by omega)]; rfl)
          · have hc4' := hc4
            (try simp only [decide_eq_true_eq, decide_eq_false_iff_not, beq_iff_eq, bne_iff_ne, Bool.not_eq_true', Bool.not_eq_false', Bool.not_eq_true, Bool.not_eq_false, beq_eq_false_iff_ne, ne_eq, bne_eq_false_iff_eq, Bool.and_eq_true, Bool.or_eq_true, Bool.not_not, Bool.and_eq_false_iff, Bool.or_eq_false_iff, Int.not_lt, Int.not_le] at hc4')
            refine CD.skip ?_
            refine CD.seq ?_
            refine CD.region ?_
            refine OD.still (wants_plain rfl) rfl (still_mv rfl ot) ?_
            refine OD.callv (f := 53) (args := [_]) (all := [_, _, _]) (Sf := [_, _]) (R := []) (wants_plain rfl) rfl rfl ot Tryd.call53 (in_vc r k n d s ts 0 b2 b3 IH hn1 hn2 hs hd1 hd (by decide)) rfl ⟨opd_const, trivial⟩ (List.Perm.refl _) ?_
            rintro _ _ ⟨S61, ⟨ad61, cp61, rfl, ho61⟩, rfl⟩
            refine OD.perm (perm_p11 (A := [_, _])) ?_
            refine OD.still (wants_plain rfl) rfl (still_mv rfl ot) ?_
            refine OD.callv (f := 53) (args := [_]) (all := [_, _, _]) (Sf := [_, _]) (R := S61) (wants_plain rfl) rfl rfl ot Tryd.call53 (in_vc r k n d s ts 1 b2 b3 IH hn1 hn2 hs hd1 hd (by decide)) rfl ⟨opd_const, trivial⟩ (List.Perm.refl _) ?_
            rintro _ _ ⟨S63, ⟨ad63, cp63, rfl, ho63⟩, rfl⟩
            refine OD.perm (perm_p22 (A := [_, _])) ?_
            refine OD.giveL (t := 63) (Sq := S63) lk ho63 (fm_len cO_len _) (perm_r22 (A := [_, _])) ?_
            refine OD.appendG (ls := (subO r ts n s 0)) (new := (subO r ts n s 1)) (Sq := S61) cO_len cO_one (wants_plain rfl) rfl rfl Tryd.underlying48 info52_Nm5 rfl (by decide) ot ho61 (perm_r11 (A := [_, _])) ot (by omega) (by have hmx : maxLen = 9223372036854775807 := rfl; (try simp only [List.length_append, List.length_cons, List.length_nil]); omega) (by have hmx : maxLen = 9223372036854775807 := rfl; (try simp only [List.length_append, List.length_cons, List.length_nil]); omega) (fun b64 cp64 h164 h264 => ?_)
            refine OD.perm (perm_q11 (S1 := [⟨b64, 52, cp64 * 5, ((subO r ts n s 0) ++ (subO r ts n s 1)).flatMap cO⟩]) (A := [_, _])) ?_
            refine OD.still (wants_plain rfl) rfl (still_mv rfl ot) ?_
            refine OD.still (wants_plain rfl) rfl (still_bld (pl := [(0, _)]) (ds := [_, _, _, _, _]) rfl Tryd.zeroValue52 Tryd.runUnderlying52 places52_Nm5 ⟨rfl, ot, trivial⟩ rfl rfl) ?_
            refine OD.bldS (pl := [(0, _)]) (zvs := [.int .i64 0, .int .i64 0, .int .i64 0, .string ⟨#[]⟩, .string ⟨#[]⟩]) (ds := [_, _, _, _, _]) (wants_plain rfl) rfl rfl Tryd.zeroValue52 Tryd.runUnderlying48 Tryd.sizeOf52 rfl rfl (by kernel_rfl) ⟨rfl, ot, trivial⟩ rfl rfl (fun b67 => ?_)
            refine OD.give (k := 0) (t := 67) (sz := 5) (m := 1) rfl lk rfl rfl rfl (Nat.le_refl _) (by decide) ?_
            refine OD.appendG (ls := ((subO r ts n s 0) ++ (subO r ts n s 1))) (new := [(⟨kk, noVl, ⟨#[]⟩⟩ : OpL)]) (Sq := [⟨b64, 52, cp64 * 5, ((subO r ts n s 0) ++ (subO r ts n s 1)).flatMap cO⟩]) cO_len cO_one (wants_plain rfl) rfl rfl Tryd.underlying48 info52_Nm5 rfl (by decide) ot (ownL_row h164 h264) (perm_r11 (A := [_, _])) ot (by simp) (by have hmx : maxLen = 9223372036854775807 := rfl; (try simp only [List.length_append, List.length_cons, List.length_nil]); omega) (by have hmx : maxLen = 9223372036854775807 := rfl; (try simp only [List.length_append, List.length_cons, List.length_nil]); omega) (fun b68 cp68 h168 h268 => ?_)
            refine OD.perm (perm_q11 (S1 := [⟨b68, 52, cp68 * 5, (((subO r ts n s 0) ++ (subO r ts n s 1)) ++ [(⟨kk, noVl, ⟨#[]⟩⟩ : OpL)]).flatMap cO⟩]) (A := [_, _])) ?_
            refine OD.still (wants_plain rfl) rfl (still_as rfl ot) ?_
            refine OD.wk (Wk.as_ (n := 69) (l' := [(4, _)]) (S' := (⟨b3, 3, 1, [_]⟩ :: ⟨b2, 47, 4, [_, _, _, _]⟩ :: [⟨b68, 52, cp68 * 5, (((subO r ts n s 0) ++ (subO r ts n s 1)) ++ [(⟨kk, noVl, ⟨#[]⟩⟩ : OpL)]).flatMap cO⟩])) rfl rfl ⟨lk, trivial⟩) ?_
            refine OD.nil ?_
            refine CD.ret ?_
            refine ⟨.inr rfl, _, [⟨b68, 52, cp68 * 5, (((subO r ts n s 0) ++ (subO r ts n s 1)) ++ [(⟨kk, noVl, ⟨#[]⟩⟩ : OpL)]).flatMap cO⟩], (by repeat (first | exact List.Sublist.refl _ | apply List.Sublist.cons)), ret_one Tryd.results36 (res_tmp (Nat.le_of_ble_eq_true rfl) lk), ?_⟩
            exact RetL.cast (RetL.mk (ownL_row h168 h268)) (by rw [ops_step, hkk, if_neg (by omega), if_neg (by omega), if_neg (by omega)]; rfl)

theorem ops_vc : ∀ (r : Nat), r ≤ 3 → ∀ (t : Tw), t.Ok → VC Tryd.prog G 36 [.agg t.cs, .v (.int .i64 (3 - (r : Int)))] [] (RetO (opsAt r t))
  | 0, _, .mk k n s ts, h => leaf_vc k n 3 s (.list 4 (Tw.css ts) ts.length) rfl h.1.1 h.1.2 h.2.1.1 h.2.1.2 h.2.2.1 (by decide)
  | r + 1, hr, .mk k n s ts, h => by
    have := step_vc (G := G) r (by omega) k n (3 - ((r + 1 : Nat) : Int)) s ts (fun t ht => by
      have h1 := ops_vc r (by omega) t (Tw.oks_all h.2.2.2.2 t ht)
      rw [show (3 - ((r + 1 : Nat) : Int) + 1) = 3 - (r : Int) by omega]
      exact h1) h.1.1 h.1.2 h.2.1.1 h.2.1.2 h.2.2.1 (by omega) (by omega)
    rw [← Tw.css_eq] at this
    exact this

set_option maxHeartbeats 4000000 in
set_option maxRecDepth 100000 in
theorem Ops_vc (t : Tw) (h : t.Ok) : VC Tryd.prog G 20 [.agg t.cs] [] (RetO (opsAt 3 t)) := by
  refine VC.body Tryd.func20 rfl Tryd.ntmps20 (Nat.le_of_ble_eq_true rfl) fun X0 w0 S00 => ?_
  obtain ⟨k, n, s, ts⟩ := t
  have ho3 := ops_vc (G := G) 3 (Nat.le_refl _) (.mk k n s ts) h
  unfold Tw.cs at ho3 ⊢
  refine CD.seq ?_
  refine CD.region ?_
  refine OD.box (ds := [_, _, _, _]) (wants_plain rfl) rfl rfl ot rfl rfl (fun b1 => ?_)
  refine OD.still (wants_plain rfl) rfl (still_as rfl opd_const) ?_
  refine OD.wk (Wk.as_ (n := 5) (l' := [(1, _)]) (S' := [⟨b1, 47, 4, [_, _, _, _]⟩]) rfl rfl ⟨lk, trivial⟩) ?_
  refine OD.nil ?_
  refine CD.seq ?_
  refine CD.region ?_
  refine OD.still (wants_plain rfl) rfl (still_r1 (mk := Op.load 47) rfl ot (by first | exact ld_blks (k := 0) (ds := [_, _, _, _]) rfl rfl Tryd.isAgg47 Tryd.sizeOf47 rfl rfl | exact ld_is (ds := [_, _, _, _]) Tryd.isAgg47 Tryd.sizeOf47 rfl rfl)) ?_
  refine OD.call (wants_plain rfl) rfl rfl rfl Tryd.call36 (ho3) ⟨ot, opd_const, trivial⟩ (perm_none _) ?_
  rintro _ S4 ⟨ad4, cp4, rfl, ho4⟩
  refine OD.perm (S' := [_] ++ S4) perm_q11 ?_
  refine OD.still (wants_plain rfl) rfl (still_as rfl ot) ?_
  refine OD.wk (Wk.as_ (n := 5) (l' := [(2, _)]) (S' := (⟨b1, 47, 4, [_, _, _, _]⟩ :: S4)) rfl rfl ⟨lk, trivial⟩) ?_
  refine OD.nil ?_
  refine CD.ret ?_
  refine ⟨.inr rfl, _, S4, (by repeat (first | exact List.Sublist.refl _ | apply List.Sublist.cons)), ret_one Tryd.results20 (res_tmp (Nat.le_of_ble_eq_true rfl) lk), ?_⟩
  exact RetL.mk ho4

theorem Ops_vp (t : Tw) (h : t.Ok) : VP Tryd.prog G 20 [.agg t.cs] (.list 5 ((opsAt 3 t).flatMap cO) (opsAt 3 t).length) := (Ops_vc t h).given cO_len

end Go.Proofs.YtoemmoeedhllfaaDoor.Nm

namespace Go.Proofs.YtoemmoeedhllfaaDoor.V
open Go.RowKit
set_option linter.unusedVariables false

variable {H : Type} {enc : TypeId × Value → H} {P : Program} {w : World} {base : Nat} {sp : Nat → Bool} {held : Bool}

/-- The same as Rds, read no deeper than so. -/
def RdsF (fuel : Nat) (enc : TypeId × Value → H) (P : Program) (w : World) (base : Nat) (sp : Nat → Bool) (held : Bool) (t : TypeId) {α : Type} (g : α → List D) (ok : α → Prop) : Prop :=
  ∀ cs x, DataW.trod enc P w base sp held fuel t cs = some x → ∃ a, RepL w (fun _ => False) (g a) cs ∧ ok a

theorem Rds.at {t : TypeId} {α : Type} {g : α → List D} {ok : α → Prop} (h : Rds enc P w base sp held t g ok) (n : Nat) : RdsF n enc P w base sp held t g ok := h n

theorem RepL.one {w : World} {L : Nat → Prop} {d : D} {v : Value} (h : Rep w L d v) : RepL w L [d] [v] := ⟨rfl, fun i h1 h2 => by
  have : i = 0 := by simpa using h1
  subst this
  exact h⟩

/-- A slice within data. -/
theorem rd_sliceF {fuel : Nat} {t e : TypeId} {sz : Nat} {α : Type} {g : α → List D} {ok : α → Prop} (ht : P.underlying t = some (.slice e)) (hce : P.cellsOf e = sz) (hsz : 0 < sz) (re : ∀ n, n + 1 = fuel → RdsF n enc P w base sp held e g ok) (hg : ∀ a, (g a).length = sz) :
    RdsF fuel enc P w base sp held t (fun l : List α => [.list sz (l.flatMap g) l.length]) (fun l => (∀ x ∈ l, ok x) ∧ l.length ≤ maxLen) := fun cs x h => by
  rcases DataW.trod_slice ht h with ⟨rfl, _⟩ | ⟨a, len, cap, elems, rest, n, hn, rfl, _, hb, hl, hmx, hlen, hel, _, _⟩
  · exact ⟨[], RepL.one (.nil sz), (fun x hx => by cases hx), Nat.zero_le _⟩
  · have re' := re n hn.symm
    rcases Nat.eq_zero_or_pos len with h0 | h0
    · subst h0
      exact ⟨[], RepL.one (.void sz (some a) cap), (fun x hx => by cases hx), Nat.zero_le _⟩
    · have each : ∀ i : Fin len, ∃ y : α, (∃ cs', w.cells? base (a.add (i.1 * P.cellsOf e)) (P.cellsOf e) = some cs' ∧ RepL w (fun _ => False) (g y) cs') ∧ ok y := fun i => by
        have h1 := hel i.1 i.2
        rw [List.getElem?_eq_getElem (by rw [hlen]; exact i.2)] at h1
        cases hc : w.cells? base (a.add (i.1 * P.cellsOf e)) (P.cellsOf e) with
        | none => rw [hc] at h1; cases h1
        | some cs' =>
          rw [hc] at h1
          obtain ⟨y, h3, h4⟩ := re' _ _ h1
          exact ⟨y, ⟨cs', rfl, h3⟩, h4⟩
      obtain ⟨cs0, hc0, _⟩ := (Classical.choose_spec (each ⟨0, h0⟩)).1
      obtain ⟨_, hl0, h5⟩ := World.cells?_some hc0
      have h6 := h5 0 (by omega)
      rw [List.getElem?_eq_getElem (by omega), Nat.zero_mul, show (a.add 0).add 0 = a from by simp [Addr.add]] at h6
      have hspot : a.spot = none ∧ a.block < w.heap.size := by
        unfold World.cell? at h6
        cases hh : w.heap[a.block]? with
        | none => rw [hh] at h6; cases h6
        | some o =>
          rw [hh] at h6
          refine ⟨?_, ?_⟩
          · cases o with
            | cells c t f =>
              cases hs : a.spot with
              | none => rfl
              | some q => simp [hs] at h6
            | _ => cases h6
          · rcases Nat.lt_or_ge a.block w.heap.size with h2 | h2
            · exact h2
            · rw [Array.getElem?_eq_none h2] at hh; cases hh
      obtain ⟨b, o, s⟩ := a
      obtain ⟨rfl, hlt⟩ := hspot
      let l : List α := List.ofFn fun i : Fin len => Classical.choose (each i)
      have hll : l.length = len := by simp [l]
      have hli : ∀ i (hi : i < l.length), (∃ cs', w.cells? base ((⟨b, o, none⟩ : Addr).add (i * P.cellsOf e)) (P.cellsOf e) = some cs' ∧ RepL w (fun _ => False) (g l[i]) cs') ∧ ok l[i] := fun i hi => by
        have := Classical.choose_spec (each ⟨i, by omega⟩)
        simpa [l] using this
      refine ⟨l, RepL.one ?_, fun x hx => ?_, by omega⟩
      · have key : ∀ k, k < (l.flatMap g).length → ∃ u, w.cell? ⟨b, o + k, none⟩ = some u ∧ ∀ h : k < (l.flatMap g).length, Rep w (fun _ => False) (l.flatMap g)[k] u := fun k hk => by
          rw [fm_len hg] at hk
          have hi : k / sz < l.length := Nat.div_lt_of_lt_mul (by rw [Nat.mul_comm]; exact hk)
          have hj : k % sz < sz := Nat.mod_lt _ hsz
          have hkk : k / sz * sz + k % sz = k := by rw [Nat.mul_comm]; exact Nat.div_add_mod k sz
          obtain ⟨⟨cs', h1, h2⟩, _⟩ := hli _ hi
          obtain ⟨_, h4, h5⟩ := World.cells?_some h1
          have h6 := h5 (k % sz) (by omega)
          have hjl : k % sz < cs'.length := by omega
          rw [List.getElem?_eq_getElem hjl, Go.Deep.add_add, hce, hkk, Addr.add_mid] at h6
          refine ⟨_, h6, fun h => ?_⟩
          have h7 := h2.2 (k % sz) (by rw [hg]; exact hj) hjl
          have h8 := fm_cell hg hi (List.getElem?_eq_getElem (show k % sz < (g l[k / sz]).length by rw [hg]; exact hj))
          rw [hkk, List.getElem?_eq_getElem h] at h8
          rw [Option.some.inj h8]
          exact h7
        have hgoal : Value.slice (some ⟨b, o, none⟩) len cap = Value.slice (some ⟨b, o, none⟩) l.length cap := by rw [hll]
        rw [hgoal]
        refine Rep.list (L := fun _ => False) sz (l.flatMap g) l.length b o cap (fun k => (w.cell? ⟨b, o + k, none⟩).getD undef) (fm_len hg l) (by omega) hmx hlt (fun h => h.elim) (fun k hk => ?_) (fun k hk => ?_)
        · obtain ⟨u, h1, _⟩ := key k hk
          rw [h1]; rfl
        · obtain ⟨u, h1, h2⟩ := key k hk
          simp only [h1, Option.getD_some]
          exact h2 hk
      · obtain ⟨i, hi, rfl⟩ := List.mem_iff_getElem.1 hx
        exact (hli i hi).2

theorem rd_struct4 {fuel : Nat} {t : TypeId} {f0 f1 f2 f3 : Field} {α0 α1 α2 α3 : Type} {g0 : α0 → List D} {g1 : α1 → List D} {g2 : α2 → List D} {g3 : α3 → List D} {k0 : α0 → Prop} {k1 : α1 → Prop} {k2 : α2 → Prop} {k3 : α3 → Prop} {n0 n1 n2 n3 : Nat}
    (ht : P.underlying t = some (.struct #[f0, f1, f2, f3])) (hc : P.cellsOf t = n0 + n1 + n2 + n3) (o0 : f0.offset = 0) (o1 : f1.offset = n0) (o2 : f2.offset = n0 + n1) (o3 : f3.offset = n0 + n1 + n2) (c0 : P.cellsOf f0.type = n0) (c1 : P.cellsOf f1.type = n1) (c2 : P.cellsOf f2.type = n2) (c3 : P.cellsOf f3.type = n3)
    (r0 : ∀ n, n + 1 = fuel → RdsF n enc P w base sp held f0.type g0 k0) (r1 : ∀ n, n + 1 = fuel → RdsF n enc P w base sp held f1.type g1 k1) (r2 : ∀ n, n + 1 = fuel → RdsF n enc P w base sp held f2.type g2 k2) (r3 : ∀ n, n + 1 = fuel → RdsF n enc P w base sp held f3.type g3 k3) :
    RdsF fuel enc P w base sp held t (fun a : α0 × α1 × α2 × α3 => g0 a.1 ++ (g1 a.2.1 ++ (g2 a.2.2.1 ++ g3 a.2.2.2))) (fun a => k0 a.1 ∧ k1 a.2.1 ∧ k2 a.2.2.1 ∧ k3 a.2.2.2) := fun cs x h => by
  obtain ⟨xs, n, hn, _, hl, hxl, hf⟩ := DataW.trod_struct ht h
  have e0 := hf 0 f0 rfl
  have e1 := hf 1 f1 rfl
  have e2 := hf 2 f2 rfl
  have e3 := hf 3 f3 rfl
  rw [o0, c0, List.drop_zero] at e0
  rw [o1, c1] at e1
  rw [o2, c2] at e2
  rw [o3, c3] at e3
  have hx3 : xs.length = 4 := hxl
  rw [List.getElem?_eq_getElem (by omega)] at e0 e1 e2 e3
  obtain ⟨a0, p0, q0⟩ := r0 n hn.symm _ _ e0
  obtain ⟨a1, p1, q1⟩ := r1 n hn.symm _ _ e1
  obtain ⟨a2, p2, q2⟩ := r2 n hn.symm _ _ e2
  obtain ⟨a3, p3, q3⟩ := r3 n hn.symm _ _ e3
  refine ⟨(a0, a1, a2, a3), ?_, q0, q1, q2, q3⟩
  have hcs : cs = cs.take n0 ++ ((cs.drop n0).take n1 ++ ((cs.drop (n0 + n1)).take n2 ++ (cs.drop (n0 + n1 + n2)).take n3)) := by
    rw [List.take_of_length_le (l := List.drop (n0 + n1 + n2) cs) (by rw [List.length_drop]; omega)]
    have e1 : cs.drop (n0 + n1 + n2) = (cs.drop (n0 + n1)).drop n2 := by rw [List.drop_drop]
    have e2 : cs.drop (n0 + n1) = (cs.drop n0).drop n1 := by rw [List.drop_drop]
    rw [e1, List.take_append_drop, e2, List.take_append_drop, List.take_append_drop]
  rw [hcs]
  exact p0.append (p1.append (p2.append p3))

/-- A struct, as an argument. -/
theorem rd_arg {t : TypeId} {fs : Array Field} {b' : Nat} {α : Type} {g : α → List D} {ok : α → Prop} (ht : P.underlying t = some (.struct fs)) (re : ∀ n, RdsF n enc P w base sp held t g ok) {v : Value} {d : DataW H} {p : List MemPlace}
    (hval : Value.okWide P w .any b' t v) (h : DataW.Trod enc P w base sp held t v d p) : ∃ a : α, Rep w (fun _ => False) (.agg (g a)) v ∧ ok a ∧ True := by
  unfold Value.okWide at hval
  rw [ht] at hval
  obtain ⟨cs, rfl, _⟩ := hval
  obtain ⟨m, hm⟩ := h
  obtain ⟨a, h1, h2⟩ := re m _ _ hm
  exact ⟨a, by
    have := Rep.agg (w := w) (L := fun _ => False) (g a) cs.toList h1.1 (fun i q1 q2 => h1.2 i q1 q2)
    simpa using this, h2, trivial⟩

end Go.Proofs.YtoemmoeedhllfaaDoor.V
