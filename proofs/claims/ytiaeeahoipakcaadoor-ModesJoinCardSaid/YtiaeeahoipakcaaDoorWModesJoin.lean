/-
  The walk of the law ModesJoin.
-/
import Derived.Test.YtiaeeahoipakcaaDoorMode
namespace Go.Proofs.YtiaeeahoipakcaaDoor.Lk
open Go.RowKit Kit Tab
set_option linter.unusedVariables false
set_option linter.unusedSimpArgs false

theorem five' {m : Int} (h : 1 ≤ m ∧ m ≤ 5) : m = 1 ∨ m = 2 ∨ m = 3 ∨ m = 4 ∨ m = 5 := by omega

theorem plainModesJoin (m n o : Int) (hm : 1 ≤ m ∧ m ≤ 5) (hn : 1 ≤ n ∧ n ≤ 5) (ho : 1 ≤ o ∧ o ≤ 5) :
    ((joinsR m n).2 == 0) = true ∧ ((joinsR n m).2 == 0) = true ∧ ((joinsR (joinsR m n).1 o).2 == 0) = true ∧ ((joinsR n o).2 == 0) = true ∧ ((joinsR m (joinsR n o).1).2 == 0) = true ∧ ((joinsR m m).2 == 0) = true ∧
    ((fitsR (joinsR m n).1 o).2 == 0) = true ∧ ((fitsR m o).2 == 0) = true ∧ ((fitsR n o).2 == 0) = true ∧ ((joinsR m n).1 == (joinsR n m).1) = true ∧ ((joinsR (joinsR m n).1 o).1 == (joinsR m (joinsR n o).1).1) = true ∧ ((joinsR m m).1 == m) = true ∧
    (fitsR (joinsR m n).1 o).1 = ((fitsR m o).1 && (fitsR n o).1) := by
  rcases five' hm with rfl | rfl | rfl | rfl | rfl <;> rcases five' hn with rfl | rfl | rfl | rfl | rfl <;> rcases five' ho with rfl | rfl | rfl | rfl | rfl <;> decide

set_option maxHeartbeats 1000000 in
theorem walkModesJoin (a : Int) (wa : (Lit.int .i64 a).wf = true) (b : Int) (wb : (Lit.int .i64 b).wf = true) (c : Int) (wc : (Lit.int .i64 c).wf = true) (w : World) (ht : FitsTab w) (hj : JoinsTab w) :
    Calls Tryd.prog 4 #[.int .i64 a, .int .i64 b, .int .i64 c] w fun e w' => e = .returned (.bool true) ∧ Below w.heap.size w w' := by
  obtain ⟨a0, a1⟩ := wf_bd wa
  obtain ⟨b0, b1⟩ := wf_bd wb
  obtain ⟨c0, c1⟩ := wf_bd wc
  clear wa wb wc
  have pa := picked_bd a 5 (by omega)
  have pb := picked_bd b 5 (by omega)
  have pc := picked_bd c 5 (by omega)
  obtain ⟨f0, f1, f2, f3, f4, f5, f6, f7, f8, f9, f10, f11, f12⟩ := plainModesJoin (1 + picked a 5) (1 + picked b 5) (1 + picked c 5) (by omega) (by omega) (by omega)
  have HT := Lib.hid ht; have HJ := Lib.hid hj; clear ht hj
  cases hy : (fitsR (1 + picked a 5) (1 + picked c 5)).1 <;> cases hz : (fitsR (1 + picked b 5) (1 + picked c 5)).1
  all_goals
    rw [hy, hz] at f12
    go_enter Tryd.func4, Tryd.ntmps4
    go_wp2_with (first | (go_at_call 5; refine (picked_any _ _ _ (by omega) (by omega) (by omega) (by omega)).mono ?_; rintro e w' ⟨rfl, rfl⟩) | (go_at_call 6; refine (fits_any _ _ _ HT.out).mono ?_; rintro e w' ⟨rfl, rfl⟩) | (go_at_call 7; refine (joins_any _ _ _ HJ.out).mono ?_; rintro e w' ⟨rfl, rfl⟩))
    go_ret
    exact ⟨rfl, Below.refl _ _⟩

end Go.Proofs.YtiaeeahoipakcaaDoor.Lk
