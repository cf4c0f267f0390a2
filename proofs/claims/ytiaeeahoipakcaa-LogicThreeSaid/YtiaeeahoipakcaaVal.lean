/-
  Walks of package value and of the helpers of padlockkeep that make values: what each function computes, for every argument.
-/
import Derived.Test.YtiaeeahoipakcaaRows
import Derived.Test.YtiaeeahoipakcaaShelf
import Derived.Test.YtiaeeahoipakcaaKit
namespace Go.Proofs.Ytiaeeahoipakcaa.Vl
open Go.RowKit Kit
set_option linter.unusedVariables false
set_option linter.unusedSimpArgs false

/-- A value, as three parts. -/
abbrev vv (k n : Int) (t : ByteArray) : Value := .agg #[.int .i64 k, .int .i64 n, .string t]

def checkF (k n : Int) (t : ByteArray) : Int :=
  if k = 0 then (if n ≠ 0 ∨ t.toList ≠ [] then 6 else 0)
  else if k = 1 then (if n < 0 ∨ n > 1 ∨ t.toList ≠ [] then 6 else 0)
  else if k = 2 then (if t.toList ≠ [] then 6 else 0)
  else if k = 3 then (if n ≠ 0 then 6 else if t.size > 20 then 1 else 0)
  else 2

set_option maxHeartbeats 400000 in
theorem check_any (k n : Int) (t : ByteArray) (w : World) :
    Calls Try.prog 17 #[vv k n t] w fun e w' => e = .returned (.int .i64 (checkF k n t)) ∧ Below w.heap.size w w' := by
  go_enter Try.func17, Try.ntmps17
  go_wp2
  all_goals
    refine bodyPost_ret (results_tmp rfl _ _ _) rfl ?_
    refine ⟨?_, (Below.refl _ _).alloc (Nat.le_refl _) _⟩
    simp_all [checkF]
    try omega
    try grind

/-- What 'picked' gives. -/
def picked (n many : Int) : Int := (if n < 0 then -(n + 1) else n) % many

theorem picked_any (n many : Int) (w : World) (h0 : -9223372036854775808 ≤ n) (h1 : n ≤ 9223372036854775807) (h2 : 1 ≤ many) (h3 : many ≤ 9223372036854775807) :
    Calls Try.prog 16 #[.int .i64 n, .int .i64 many] w fun e w' => e = .returned (.int .i64 (picked n many)) ∧ w' = w := by
  have hm : (many == 0) = false := by simp; omega
  by_cases h : n < 0
  · go_enter Try.func16, Try.ntmps16
    go_wp2
    go_ret
    exact ⟨ret_int (by rw [picked, if_pos h, ← Int.neg_tmod, Int.tmod_eq_emod_of_nonneg (by omega)]), rfl⟩
  · go_enter Try.func16, Try.ntmps16
    go_wp2
    go_ret
    exact ⟨ret_int (by rw [picked, if_neg (by omega)]), rfl⟩

def cutF (s : ByteArray) (m : Nat) : ByteArray := s.extract 0 (min s.size m)

theorem cut_any (s : ByteArray) (m : Int) (w : World) (h0 : 0 ≤ m) (hs : s.size ≤ maxLen) :
    Calls Try.prog 21 #[.string s, .int .i64 m] w fun e w' => e = .returned (.string (cutF s m.toNat)) ∧ w' = w := by
  go_enter Try.func21, Try.ntmps21
  go_wp2
  go_ret
  exact ⟨by rw [cutF, show (min (↑s.size) m).toNat = min s.size m.toNat from by omega]; rfl, rfl⟩

theorem null_any (k n : Int) (t : ByteArray) (k' n' : Int) (t' : ByteArray) (w : World) :
    Calls Try.prog 25 #[vv k n t, vv k' n' t'] w fun e w' => e = .returned (.bool (k == 0 || k' == 0)) ∧ Below w.heap.size w w' := by
  go_enter Try.func25, Try.ntmps25
  go_wp2
  all_goals go_ret
  all_goals refine ⟨?_, ((Below.refl _ _).alloc (Nat.le_refl _) _).alloc (by simp) _⟩
  all_goals simp_all

def b2i (b : Bool) : Int := if b then 1 else 0

theorem truth_any (b : Bool) (w : World) :
    Calls Try.prog 26 #[.bool b] w fun e w' => e = .returned (vv 1 (b2i b) ⟨#[]⟩) ∧ Below w.heap.size w w' := by
  cases b
  all_goals
    go_enter Try.func26, Try.ntmps26
    go_wp2
    refine bodyPost_ret (v := vv 1 _ ⟨#[]⟩) (by simp [b2i, results, Try.results26, go_sem]) rfl ⟨rfl, ?_⟩
    exact ((Below.refl _ _).alloc (Nat.le_refl _) _)

def bothF (k n : Int) (t : ByteArray) (k' n' : Int) (t' : ByteArray) : Int := if checkF k n t = 0 then checkF k' n' t' else checkF k n t

theorem both_any (k n : Int) (t : ByteArray) (k' n' : Int) (t' : ByteArray) (w : World) :
    Calls Try.prog 22 #[vv k n t, vv k' n' t'] w fun e w' => e = .returned (.int .i64 (bothF k n t k' n' t')) ∧ Below w.heap.size w w' := by
  by_cases h : checkF k n t = 0
  · have h' : (checkF k n t != 0) = false := by simp [h]
    have H := Lib.hid h; clear h
    go_enter Try.func22, Try.ntmps22
    go_wp2_with fail
    refine (check_any _ _ _ _).mono ?_
    rintro e w1 ⟨rfl, hb⟩
    have hz : w.heap.size + 2 ≤ w1.heap.size := by have := hb.size; simp at this; omega
    obtain ⟨hc, hf⟩ := bcell hb
    go_wp2_with fail
    refine (check_any _ _ _ _).mono ?_
    rintro e w2 ⟨rfl, hb2⟩
    go_wp2_with fail
    go_ret
    refine ⟨ret_int (by rw [bothF, if_pos H.out]), ?_⟩
    exact ((((Below.refl _ _).alloc (Nat.le_refl _) _).alloc (by simp) _).trans (hb.mono (by simp; omega))).trans (hb2.mono (by omega))
  · have h' : (checkF k n t != 0) = true := by simp [h]
    have H := Lib.hid h; clear h
    go_enter Try.func22, Try.ntmps22
    go_wp2_with fail
    refine (check_any _ _ _ _).mono ?_
    rintro e w1 ⟨rfl, hb⟩
    go_wp2_with fail
    go_ret
    refine ⟨ret_int (by rw [bothF, if_neg H.out]), ?_⟩
    exact ((((Below.refl _ _).alloc (Nat.le_refl _) _).alloc (by simp) _).trans (hb.mono (by simp; omega)))

theorem add_ok (a b : Int) (ha0 : -9223372036854775808 ≤ a) (ha1 : a ≤ 9223372036854775807) (hb0 : -9223372036854775808 ≤ b) (hb1 : b ≤ 9223372036854775807) :
    (decide (wrap64 (a + b) < a) == decide (b < 0)) = fits (a + b) := by
  rw [Bool.eq_iff_iff]; unfold fits wrap64; simp only [beq_iff_eq, decide_eq_decide, decide_eq_true_eq]; omega

theorem sub_ok (a b : Int) (ha0 : -9223372036854775808 ≤ a) (ha1 : a ≤ 9223372036854775807) (hb0 : -9223372036854775808 ≤ b) (hb1 : b ≤ 9223372036854775807) :
    (decide (a < wrap64 (a - b)) == decide (b < 0)) = fits (a - b) := by
  rw [Bool.eq_iff_iff]; unfold fits wrap64; simp only [beq_iff_eq, decide_eq_decide, decide_eq_true_eq]; omega

theorem arith_add (a b : Int) (w : World) (ha0 : -9223372036854775808 ≤ a) (ha1 : a ≤ 9223372036854775807) (hb0 : -9223372036854775808 ≤ b) (hb1 : b ≤ 9223372036854775807) :
    Calls Try.prog 27 #[.int .i64 8, .int .i64 a, .int .i64 b] w fun e w' => e = .returned (.tuple #[.int .i64 (wrap64 (a + b)), .bool (fits (a + b))]) ∧ w' = w := by
  go_enter Try.func27, Try.ntmps27
  go_wp2
  go_ret2
  exact ⟨by rw [← add_ok a b ha0 ha1 hb0 hb1]; rfl, rfl⟩

theorem arith_sub (a b : Int) (w : World) (ha0 : -9223372036854775808 ≤ a) (ha1 : a ≤ 9223372036854775807) (hb0 : -9223372036854775808 ≤ b) (hb1 : b ≤ 9223372036854775807) :
    Calls Try.prog 27 #[.int .i64 9, .int .i64 a, .int .i64 b] w fun e w' => e = .returned (.tuple #[.int .i64 (wrap64 (a - b)), .bool (fits (a - b))]) ∧ w' = w := by
  go_enter Try.func27, Try.ntmps27
  go_wp2
  go_ret2
  exact ⟨by rw [← sub_ok a b ha0 ha1 hb0 hb1]; rfl, rfl⟩

theorem mul_wrap_div (a b : Int) (ha : a ≠ 0) (ha0 : -9223372036854775808 ≤ a) (ha1 : a ≤ 9223372036854775807)
    (h : wrap64 ((wrap64 (a * b)).tdiv a) = b) (h2 : ¬ (a = -1 ∧ b = -9223372036854775808)) : fits (a * b) = true := by
  have hp := wrap_bd (a * b)
  obtain ⟨k, hk⟩ : ∃ k, wrap64 (a * b) = a * b + k * 18446744073709551616 := ⟨-((a * b + 9223372036854775808) / 18446744073709551616), by unfold wrap64; omega⟩
  generalize wrap64 (a * b) = p at *
  have hq1 : (p.tdiv a).natAbs ≤ p.natAbs := Int.natAbs_tdiv_le_natAbs p a
  have hqr : a * p.tdiv a + p.tmod a = p := Int.mul_tdiv_add_tmod p a
  have hr : (p.tmod a).natAbs < a.natAbs := by rw [Int.natAbs_tmod]; exact Nat.mod_lt _ (by omega)
  generalize p.tdiv a = q at *
  generalize p.tmod a = r at *
  by_cases hq : q = 9223372036854775808
  · subst hq
    have hb : b = -9223372036854775808 := by rw [← h]; unfold wrap64; omega
    exfalso
    exact h2 ⟨by omega, hb⟩
  · have hqb : q = b := by rw [← h]; unfold wrap64; omega
    subst hqb
    generalize a * q = c at *
    unfold fits
    simp only [decide_eq_true_eq]
    omega

theorem mul_div (a b : Int) (ha : a ≠ 0) (hb0 : -9223372036854775808 ≤ b) (hb1 : b ≤ 9223372036854775807) (h : fits (a * b) = true) : wrap64 ((wrap64 (a * b)).tdiv a) = b := by
  rw [wrap_fits h, Int.mul_tdiv_cancel_left _ ha]; unfold wrap64; omega

theorem m1_out (b : Int) (hb0 : -9223372036854775808 ≤ b) (hb1 : b ≤ 9223372036854775807) : (!b == -9223372036854775808) = fits (-1 * b) := by
  rw [Bool.eq_iff_iff]; unfold fits; simp; omega

theorem fits_not {x : Int} (h : ¬ fits x = true) : fits x = false := by simpa using h

theorem arith_mul (a b : Int) (w : World) (ha0 : -9223372036854775808 ≤ a) (ha1 : a ≤ 9223372036854775807) (hb0 : -9223372036854775808 ≤ b) (hb1 : b ≤ 9223372036854775807) :
    Calls Try.prog 27 #[.int .i64 10, .int .i64 a, .int .i64 b] w fun e w' => e = .returned (.tuple #[.int .i64 (wrap64 (a * b)), .bool (fits (a * b))]) ∧ w' = w := by
  have m1 := mul_wrap_div a b
  have m2 := mul_div a b
  have H1 := Lib.hid m1
  have H2 := Lib.hid m2
  clear m1 m2
  go_enter Try.func27, Try.ntmps27
  go_wp2
  · go_ret2
    subst_vars
    exact ⟨by simp [fits], rfl⟩
  · go_ret2
    subst_vars
    refine ⟨?_, rfl⟩
    rw [← m1_out b hb0 hb1, show -1 * b = -b from by omega]
    rfl
  · go_ret2
    rw [H1.out (by assumption) ha0 ha1 (by assumption) (by omega)]
    exact ⟨rfl, rfl⟩
  · go_ret2
    have hne : a ≠ 0 := by assumption
    have hno : ¬ wrap64 ((wrap64 (a * b)).tdiv a) = b := by assumption
    rw [fits_not (fun h => hno (H2.out hne hb0 hb1 h))]
    have h0 : (a == 0) = false := by simpa using hne
    refine ⟨?_, rfl⟩
    show Ending.returned (.tuple #[.int .i64 (wrap64 (a * b)), .bool (a == 0)]) = _
    rw [h0]

def or3F (a b c : Int) : Int := if a = 0 then (if b = 0 then c else b) else a

theorem or3 (p : Nat) (a b c : Int) (w : World) (h0 : w.cell? ⟨p, 0, none⟩ = some (.int .i64 a)) (h1 : w.cell? ⟨p, 1, none⟩ = some (.int .i64 b)) (h2 : w.cell? ⟨p, 2, none⟩ = some (.int .i64 c)) :
    Calls Try.prog 28 #[.slice (some ⟨p, 0, none⟩) 3 3] w fun e w' => e = .returned (.int .i64 (or3F a b c)) ∧ w' = w := by
  go_enter Try.func28, Try.ntmps28
  go_wp2
  refine wp_loop_rounds 4 ?_
  iterate 4 (all_goals (try simp only [rounds_succ]); all_goals go_wp2)
  all_goals go_ret
  all_goals simp_all [or3F]

def cmpF (k n : Int) (t : ByteArray) (k' n' : Int) (t' : ByteArray) : Int := or3F (Lib.compareInt k k') (Lib.compareInt n n') (Lib.compareBytes t.data.toList t'.data.toList)

set_option maxHeartbeats 400000 in
theorem compare_any (k n : Int) (t : ByteArray) (k' n' : Int) (t' : ByteArray) (w : World) :
    Calls Try.prog 23 #[vv k n t, vv k' n' t'] w fun e w' => e = .returned (.int .i64 (cmpF k n t k' n' t')) ∧ Below w.heap.size w w' := by
  go_enter Try.func23, Try.ntmps23
  go_wp2_with fail
  refine still_tail 15 (by kernel_rfl) (by kernel_rfl) ?_
  simp only [List.take_succ_cons, List.take_zero, List.drop_succ_cons, List.drop_zero]
  iterate 4 still_step
  still_call (Try.cmp_Compare_int _ _ _)
  iterate 4 still_step
  still_call (Try.cmp_Compare_int _ _ _)
  iterate 4 still_step
  still_call (Try.strings_Compare _ _ _)
  refine wpStill_nil ?_
  go_wp2_with fail
  refine (or3 _ (Lib.compareInt k k') (Lib.compareInt n n') (Lib.compareBytes t.data.toList t'.data.toList) _ (by go_simp) (by go_simp) (by go_simp)).mono ?_
  rintro e w' ⟨rfl, rfl⟩
  go_wp2_with fail
  go_ret
  exact ⟨rfl, ((((Below.refl _ _).alloc (Nat.le_refl _) _).alloc (by simp) _).drew.alloc (by simp; omega) _)⟩

/-- A value of Go's, as plain data. -/
structure V where
  k : Int
  n : Int
  t : ByteArray

abbrev V.val (v : V) : Value := vv v.k v.n v.t
def V.nil : V := ⟨0, 0, ⟨#[]⟩⟩

end Go.Proofs.Ytiaeeahoipakcaa.Vl
