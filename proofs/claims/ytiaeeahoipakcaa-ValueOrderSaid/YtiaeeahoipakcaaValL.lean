/-
  Walk of package value: logic.
-/
import Derived.Test.YtiaeeahoipakcaaVal
namespace Go.Proofs.Ytiaeeahoipakcaa.Vl
open Go.RowKit Kit
set_option linter.unusedVariables false
set_option linter.unusedSimpArgs false

def logicR (a b : V) (d : Int) : V × Int :=
  if ¬ (a.k = 1 ∨ a.k = 0) then (.nil, 4)
  else if ¬ (b.k = 1 ∨ b.k = 0) then (.nil, 4)
  else if a.k = 1 ∧ a.n = d then (a, 0)
  else if b.k = 1 ∧ b.n = d then (b, 0)
  else if a.k = 0 ∨ b.k = 0 then (.nil, 0)
  else (a, 0)

theorem idx0 (k n : Int) (t : ByteArray) (k' n' : Int) (t' : ByteArray) (w : World) : (Instr.index 49 (.agg #[.int .i64 k, .int .i64 n, .string t, .int .i64 k', .int .i64 n', .string t']) (.int .i64 0)).run Try.prog w = .ok (vv k n t) w := by kernel_rfl
theorem idx1 (k n : Int) (t : ByteArray) (k' n' : Int) (t' : ByteArray) (w : World) : (Instr.index 49 (.agg #[.int .i64 k, .int .i64 n, .string t, .int .i64 k', .int .i64 n', .string t']) (.int .i64 1)).run Try.prog w = .ok (vv k' n' t') w := by kernel_rfl

set_option maxHeartbeats 2000000 in
theorem logic_any (k n : Int) (t : ByteArray) (k' n' : Int) (t' : ByteArray) (d : Int) (w : World) :
    Calls Try.prog 24 #[vv k n t, vv k' n' t', .int .i64 d] w fun e w' => e = .returned (.tuple #[(logicR ⟨k, n, t⟩ ⟨k', n', t'⟩ d).1.val, .int .i64 (logicR ⟨k, n, t⟩ ⟨k', n', t'⟩ d).2]) ∧ Below w.heap.size w w' := by
  have i0 := @idx0
  have i1 := @idx1
  have hk : k = 1 ∨ k = 0 ∨ ((k != 1) = true ∧ (k != 0) = true ∧ (k == 1) = false) := by simp; omega
  have hk' : k' = 1 ∨ k' = 0 ∨ ((k' != 1) = true ∧ (k' != 0) = true ∧ (k' == 1) = false) := by simp; omega
  rcases hk with rfl | rfl | ⟨h1, h2, h3⟩ <;> rcases hk' with rfl | rfl | ⟨h1', h2', h3'⟩
  all_goals
    go_enter Try.func24, Try.ntmps24
    go_wp2_with fail
    refine wp_loop_rounds 3 ?_
    iterate 3 (all_goals (try simp only [rounds_succ]); all_goals go_wp2_with fail)
  all_goals try (refine wp_loop_rounds 3 ?_; iterate 3 (all_goals (try simp only [rounds_succ]); all_goals go_wp2_with fail))
  all_goals try (
    refine (null_any _ _ _ _ _ _ _).mono ?_
    rintro e w1 ⟨rfl, hb⟩
    obtain ⟨hc, hf⟩ := bcell hb
    have hz := hb.size
    simp at hz
    go_wp2_with fail)
  all_goals refine bodyPost_ret (v := .tuple #[(logicR ⟨_, n, t⟩ ⟨_, n', t'⟩ d).1.val, .int .i64 (logicR ⟨_, n, t⟩ ⟨_, n', t'⟩ d).2]) ?_ rfl ⟨rfl, ?_⟩
  all_goals first
    | (simp_all [logicR, V.nil, results, Try.results24, go_sem]; done)
    | (repeat (first | exact Below.refl _ _ | refine Below.alloc ?_ (by simp <;> omega) _ | refine Below.setCell ?_ (by simp <;> omega) _ | refine Below.trans ?_ (Below.mono (by assumption) (by simp <;> omega))))

end Go.Proofs.Ytiaeeahoipakcaa.Vl
