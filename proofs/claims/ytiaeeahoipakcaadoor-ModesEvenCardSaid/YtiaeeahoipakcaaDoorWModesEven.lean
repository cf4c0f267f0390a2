/-
  The walk of the law ModesEven.
-/
import Derived.Test.YtiaeeahoipakcaaDoorMode
namespace Go.Proofs.YtiaeeahoipakcaaDoor.Lk
open Go.RowKit Kit Tab
set_option linter.unusedVariables false
set_option linter.unusedSimpArgs false

theorem fiveI {m : Int} (h : 1 ≤ m ∧ m ≤ 5) : m = 1 ∨ m = 2 ∨ m = 3 ∨ m = 4 ∨ m = 5 := by omega

theorem plainModesEven (m n : Int) (hm : 1 ≤ m ∧ m ≤ 5) (hn : 1 ≤ n ∧ n ≤ 5) :
    ((fitsR m n).2 == 0) = true ∧ ((fitsR n m).2 == 0) = true ∧ ((fitsR m 5).2 == 0) = true ∧ ((fitsR 1 m).2 == 0) = true ∧ ((fitsR 0 m).2 == 2) = true ∧ (fitsR m n).1 = (fitsR n m).1 ∧ (fitsR m 5).1 = false ∧ (fitsR 1 m).1 = (m != 5) := by
  rcases fiveI hm with rfl | rfl | rfl | rfl | rfl <;> rcases fiveI hn with rfl | rfl | rfl | rfl | rfl <;> decide

theorem walkModesEven (a : Int) (wa : (Lit.int .i64 a).wf = true) (b : Int) (wb : (Lit.int .i64 b).wf = true) (w : World) (ht : FitsTab w) :
    Calls Tryd.prog 3 #[.int .i64 a, .int .i64 b] w fun e w' => e = .returned (.bool true) ∧ Below w.heap.size w w' := by
  obtain ⟨a0, a1⟩ := wf_bd wa
  obtain ⟨b0, b1⟩ := wf_bd wb
  clear wa wb
  have pa := picked_bd a 5 (by omega)
  have pb := picked_bd b 5 (by omega)
  obtain ⟨f0, f1, f2, f3, f4, f5, f6, f7⟩ := plainModesEven (1 + picked a 5) (1 + picked b 5) (by omega) (by omega)
  have HT := Lib.hid ht; clear ht
  go_enter Tryd.func3, Tryd.ntmps3
  go_wp2_with (first | (go_at_call 5; refine (picked_any _ _ _ (by omega) (by omega) (by omega) (by omega)).mono ?_; rintro e w' ⟨rfl, rfl⟩) | (go_at_call 6; refine (fits_any _ _ _ HT.out).mono ?_; rintro e w' ⟨rfl, rfl⟩))
  go_ret
  exact ⟨rfl, Below.refl _ _⟩

end Go.Proofs.YtiaeeahoipakcaaDoor.Lk
