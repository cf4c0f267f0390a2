/-
  Out of the contracts: what a law's walk says of its row.
-/
import Derived.Test.YtcogdagfcndbfaaDoorVd
import Derived.Test.YtcogdagfcndbfaaDoorTab
import Derived.Below
namespace Go.Proofs.YtcogdagfcndbfaaDoor.V
open Go.RowKit
set_option linter.unusedVariables false

theorem VP.run {P : Program} {G : List (Nat × List Value)} {f : FuncId} {args : List D} {vs : List Value} {r : Value} {w : World} (h : VP P G f args (.v r))
    (hG : ∀ g ∈ G, g.2 ≠ [] ∧ Tab.TabAt w g.1 g.2) (hr : RepL w (live (fun _ => False) []) args vs) : Calls P f vs.toArray w fun e w' => e = .returned r ∧ Below w.heap.size w w' := by
  have hp : Pre G (fun _ => False) w [] args vs := by
    refine ⟨fun _ h => h.elim, fun g hg => ⟨⟨?_, by simp [bks], fun h => h⟩, (hG g hg).2⟩, ⟨fun B hB => by simp at hB, by simp [bks]⟩, hr⟩
    obtain ⟨h1, h2⟩ := hG g hg
    cases hl : g.2 with
    | nil => exact absurd hl h1
    | cons v l => exact World.block_lt_of_cell? w _ (h2 0 v (by rw [hl]; rfl))
  refine (h _ w vs hp).mono fun e w' ⟨v, r', S', h1, ⟨h2, h3⟩, h4, h5, h6⟩ => ?_
  subst h2
  rw [h5.v_eq] at h1
  exact ⟨h1, h6.os, h6.tape, h6.output, h6.size, fun k hk => (h6.block k hk (by simp [bks])).1⟩

theorem RepL.vs (w : World) (L : Nat → Prop) (vs : List Value) : RepL w L (vs.map .v) vs := ⟨by simp, fun i h1 h2 => by rw [List.getElem_map]; exact .v _⟩
theorem wf_bd {a : Int} (h : (Lit.int .i64 a).wf = true) : -9223372036854775808 ≤ a ∧ a ≤ 9223372036854775807 := bounds_i64 h
end Go.Proofs.YtcogdagfcndbfaaDoor.V
