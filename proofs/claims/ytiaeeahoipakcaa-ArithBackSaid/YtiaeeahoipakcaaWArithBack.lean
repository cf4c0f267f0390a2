/-
  The walk of the law ArithBack.
-/
import Derived.Test.YtiaeeahoipakcaaVal4
namespace Go.Proofs.Ytiaeeahoipakcaa.Vl
open Go.RowKit Kit
set_option linter.unusedVariables false
set_option linter.unusedSimpArgs false

theorem walkArithBack (a : Int) (wa : (Lit.int .i64 a).wf = true) (b : Int) (wb : (Lit.int .i64 b).wf = true) (w : World) :
    Calls Try.prog 4 #[.int .i64 a, .int .i64 b] w fun e w' => e = .returned (.bool true) ∧ Below w.heap.size w w' := by
  obtain ⟨a0, a1⟩ := wf_bd wa
  obtain ⟨b0, b1⟩ := wf_bd wb
  clear wa wb
  by_cases hf : fits (a + b) = true
  · have r1 : twoR 8 ⟨2, a, ⟨#[]⟩⟩ ⟨2, b, ⟨#[]⟩⟩ = (⟨2, a + b, ⟨#[]⟩⟩, 0) := by
      rw [two_num 8 a b (by omega), show arithF 8 a b = a + b from by simp [arithF], if_pos hf, wrap_fits hf]
    have r2 : twoR 9 ⟨2, a + b, ⟨#[]⟩⟩ ⟨2, b, ⟨#[]⟩⟩ = (⟨2, a, ⟨#[]⟩⟩, 0) := by
      have e : arithF 9 (a + b) b = a := by simp [arithF]
      have f : fits a = true := by simp [fits, a0, a1]
      rw [two_num 9 (a + b) b (by omega), e, if_pos f, wrap_fits f]
    have R1 := Lib.hid r1; have R2 := Lib.hid r2; clear r1 r2
    have s0 : -9223372036854775808 ≤ a + b := by unfold fits at hf; simp at hf; omega
    have s1 : a + b ≤ 9223372036854775807 := by unfold fits at hf; simp at hf; omega
    clear hf
    have q := veq_refl 2 a ⟨#[]⟩
    go_enter Try.func4, Try.ntmps4
    go_wp2_with fail
    refine (two_any _ _ _ _ _ _ _ _ (.inr ⟨⟨a0, a1⟩, b0, b1⟩)).mono ?_
    rintro e w1 ⟨k1, n1, t1, e1, g1, rfl, hb1⟩
    rw [R1.out] at g1
    obtain ⟨⟨rfl, rfl, rfl⟩, rfl⟩ : (2 = k1 ∧ a + b = n1 ∧ ⟨#[]⟩ = t1) ∧ 0 = e1 := by simpa using g1
    clear g1
    obtain ⟨hc0, hf0⟩ := keep hb1 w.heap.size (by simp; omega)
    obtain ⟨hc1, hf1⟩ := keep hb1 (w.heap.size + 1) (by simp)
    have hz0 : w.heap.size < w1.heap.size := by have := hb1.size; simp at this; omega
    have hz1 : w.heap.size + 1 < w1.heap.size := by have := hb1.size; simp at this; omega
    go_wp2_with fail
    all_goals refine (two_any _ _ _ _ _ _ _ _ (.inr ⟨⟨s0, s1⟩, b0, b1⟩)).mono ?_
    all_goals rintro e w2 ⟨k2, n2, t2, e2, g2, rfl, hb2⟩
    all_goals rw [R2.out] at g2
    all_goals obtain ⟨⟨rfl, rfl, rfl⟩, rfl⟩ : (2 = k2 ∧ a = n2 ∧ ⟨#[]⟩ = t2) ∧ 0 = e2 := by simpa using g2
    all_goals clear g2
    all_goals obtain ⟨hc20, hf20⟩ := keep hb2 w.heap.size (by simp; omega)
    all_goals obtain ⟨hc21, hf21⟩ := keep hb2 w1.heap.size (by simp)
    all_goals have hy0 : w.heap.size < w2.heap.size := by have := hb2.size; simp at this; omega
    all_goals have hy1 : w1.heap.size < w2.heap.size := by have := hb2.size; simp at this; omega
    all_goals go_wp2_with fail
    all_goals go_ret
    all_goals refine ⟨rfl, ?_⟩
    all_goals (repeat (first | exact Below.refl _ _ | refine ext_via ?_ (by assumption) | refine ext_al ?_ _ | refine ext_dr ?_ | refine ext_set ?_ (by first | omega | (simp <;> omega)) _))
  · have r1 : twoR 8 ⟨2, a, ⟨#[]⟩⟩ ⟨2, b, ⟨#[]⟩⟩ = (⟨0, 0, ⟨#[]⟩⟩, 5) := by
      rw [two_num 8 a b (by omega), show arithF 8 a b = a + b from by simp [arithF], if_neg hf]; rfl
    have R1 := Lib.hid r1; clear r1
    have hb : (0 < b ∧ 9223372036854775807 - b < a) ∨ (b < 0 ∧ a < -9223372036854775808 - b) := by unfold fits at hf; simp at hf; omega
    clear hf
    have q := veq_refl 0 0 ⟨#[]⟩
    rcases hb with ⟨h1, h2⟩ | ⟨h1, h2⟩
    all_goals
      go_enter Try.func4, Try.ntmps4
      go_wp2_with fail
      refine (two_any _ _ _ _ _ _ _ _ (.inr ⟨⟨a0, a1⟩, b0, b1⟩)).mono ?_
      rintro e w1 ⟨k1, n1, t1, e1, g1, rfl, hb1⟩
      rw [R1.out] at g1
      obtain ⟨⟨rfl, rfl, rfl⟩, rfl⟩ : (0 = k1 ∧ 0 = n1 ∧ ⟨#[]⟩ = t1) ∧ 5 = e1 := by simpa using g1
      clear g1
      go_wp2_with fail
      go_ret
      refine ⟨rfl, ?_⟩
      repeat (first | exact Below.refl _ _ | refine ext_via ?_ (by assumption) | refine ext_al ?_ _ | refine ext_dr ?_ | refine ext_set ?_ (by first | omega | (simp <;> omega)) _)

end Go.Proofs.Ytiaeeahoipakcaa.Vl
