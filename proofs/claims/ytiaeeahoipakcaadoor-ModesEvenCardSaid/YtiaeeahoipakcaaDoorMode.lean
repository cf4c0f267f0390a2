/-
  Walks of package lock: which modes go together, and their joins, by the two tables.
-/
import Derived.Test.YtiaeeahoipakcaaDoorKit
import Derived.Test.YtiaeeahoipakcaaDoorTab
namespace Go.Proofs.YtiaeeahoipakcaaDoor.Lk
open Go.RowKit Kit Tab
set_option linter.unusedVariables false
set_option linter.unusedSimpArgs false

def fitsL : List (List Bool) := [[false, false, false, false, false, false], [false, true, true, true, true, false], [false, true, true, false, false, false], [false, true, false, true, false, false], [false, true, false, false, false, false], [false, false, false, false, false, false]]
def joinsL : List (List Int) := [[0, 0, 0, 0, 0, 0], [0, 1, 2, 3, 4, 5], [0, 2, 2, 4, 4, 5], [0, 3, 4, 3, 4, 5], [0, 4, 4, 4, 4, 5], [0, 5, 5, 5, 5, 5]]
def fitsT (a b : Nat) : Bool := (fitsL.getD a []).getD b false
def joinsT (a b : Nat) : Int := (joinsL.getD a []).getD b 0

/-- Both tables as they lie in memory, cell by cell. -/
def fitsC : List Value := fitsL.flatMap fun r => r.flatMap fun b => [.bool b]
def joinsC : List Value := joinsL.flatMap fun r => r.flatMap fun b => [.int .i64 b]

def FitsTab (w : World) : Prop := TabAt w 0 fitsC
def JoinsTab (w : World) : Prop := TabAt w 1 joinsC

theorem five {m : Nat} (h1 : 1 ≤ m) (h2 : m ≤ 5) : m = 1 ∨ m = 2 ∨ m = 3 ∨ m = 4 ∨ m = 5 := by omega

theorem fitsC_at (m n : Nat) (h1 : 1 ≤ m) (h2 : m ≤ 5) (h3 : 1 ≤ n) (h4 : n ≤ 5) : fitsC[m * 6 + n]? = some (.bool (fitsT m n)) := by
  rcases five h1 h2 with rfl | rfl | rfl | rfl | rfl <;> rcases five h3 h4 with rfl | rfl | rfl | rfl | rfl <;> rfl
theorem joinsC_at (m n : Nat) (h1 : 1 ≤ m) (h2 : m ≤ 5) (h3 : 1 ≤ n) (h4 : n ≤ 5) : joinsC[m * 6 + n]? = some (.int .i64 (joinsT m n)) := by
  rcases five h1 h2 with rfl | rfl | rfl | rfl | rfl <;> rcases five h3 h4 with rfl | rfl | rfl | rfl | rfl <;> rfl

def modeB (m : Int) : Bool := decide (1 ≤ m) && decide (m ≤ 5)

theorem mode_any (m : Int) (w : World) :
    Calls Tryd.prog 8 #[.int .i64 m] w fun e w' => e = .returned (.bool (modeB m)) ∧ w' = w := by
  go_enter Tryd.func8, Tryd.ntmps8
  go_wp2
  all_goals go_ret
  all_goals refine ⟨?_, rfl⟩
  all_goals (show Ending.returned (.bool _) = _; refine congrArg (fun b => Ending.returned (.bool b)) ?_; simp [modeB] <;> omega)

def fitsF (a b : Int) : Bool := fitsT a.toNat b.toNat
def joinsF (a b : Int) : Int := joinsT a.toNat b.toNat

theorem fits_yes (a b : Int) (w : World) (ht : FitsTab w) (a1 : 1 ≤ a) (a2 : a ≤ 5) (b1 : 1 ≤ b) (b2 : b ≤ 5) :
    Calls Tryd.prog 6 #[.int .i64 a, .int .i64 b] w fun e w' => e = .returned (.tuple #[.bool (fitsF a b), .int .i64 0]) ∧ w' = w := by
  obtain ⟨m, rfl⟩ := Int.eq_ofNat_of_zero_le (show 0 ≤ a by omega)
  obtain ⟨n, rfl⟩ := Int.eq_ofNat_of_zero_le (show 0 ≤ b by omega)
  have hc := ht _ _ (fitsC_at m n (by omega) (by omega) (by omega) (by omega))
  have m1 : modeB (m : Int) = true := by simp [modeB]; omega
  have m2 : modeB (n : Int) = true := by simp [modeB]; omega
  clear ht
  go_enter Tryd.func6, Tryd.ntmps6
  go_wp2_with (go_at_call 8; refine (mode_any _ _).mono ?_; rintro e w' ⟨rfl, rfl⟩)
  go_ret2
  exact ⟨rfl, rfl⟩

theorem joins_yes (a b : Int) (w : World) (ht : JoinsTab w) (a1 : 1 ≤ a) (a2 : a ≤ 5) (b1 : 1 ≤ b) (b2 : b ≤ 5) :
    Calls Tryd.prog 7 #[.int .i64 a, .int .i64 b] w fun e w' => e = .returned (.tuple #[.int .i64 (joinsF a b), .int .i64 0]) ∧ w' = w := by
  obtain ⟨m, rfl⟩ := Int.eq_ofNat_of_zero_le (show 0 ≤ a by omega)
  obtain ⟨n, rfl⟩ := Int.eq_ofNat_of_zero_le (show 0 ≤ b by omega)
  have hc := ht _ _ (joinsC_at m n (by omega) (by omega) (by omega) (by omega))
  have m1 : modeB (m : Int) = true := by simp [modeB]; omega
  have m2 : modeB (n : Int) = true := by simp [modeB]; omega
  clear ht
  go_enter Tryd.func7, Tryd.ntmps7
  go_wp2_with (go_at_call 8; refine (mode_any _ _).mono ?_; rintro e w' ⟨rfl, rfl⟩)
  go_ret2
  exact ⟨rfl, rfl⟩

theorem fits_no (a b : Int) (w : World) (h : (modeB a && modeB b) = false) :
    Calls Tryd.prog 6 #[.int .i64 a, .int .i64 b] w fun e w' => e = .returned (.tuple #[.bool false, .int .i64 2]) ∧ w' = w := by
  rcases (show modeB a = false ∨ (modeB a = true ∧ modeB b = false) by cases h1 : modeB a <;> cases h2 : modeB b <;> simp_all) with h1 | ⟨h1, h2⟩
  all_goals
    clear h
    go_enter Tryd.func6, Tryd.ntmps6
    go_wp2_with (go_at_call 8; refine (mode_any _ _).mono ?_; rintro e w' ⟨rfl, rfl⟩)
    go_ret2
    exact ⟨rfl, rfl⟩

theorem joins_no (a b : Int) (w : World) (h : (modeB a && modeB b) = false) :
    Calls Tryd.prog 7 #[.int .i64 a, .int .i64 b] w fun e w' => e = .returned (.tuple #[.int .i64 0, .int .i64 2]) ∧ w' = w := by
  rcases (show modeB a = false ∨ (modeB a = true ∧ modeB b = false) by cases h1 : modeB a <;> cases h2 : modeB b <;> simp_all) with h1 | ⟨h1, h2⟩
  all_goals
    clear h
    go_enter Tryd.func7, Tryd.ntmps7
    go_wp2_with (go_at_call 8; refine (mode_any _ _).mono ?_; rintro e w' ⟨rfl, rfl⟩)
    go_ret2
    exact ⟨rfl, rfl⟩

def fitsR (a b : Int) : Bool × Int := if modeB a && modeB b then (fitsF a b, 0) else (false, 2)
def joinsR (a b : Int) : Int × Int := if modeB a && modeB b then (joinsF a b, 0) else (0, 2)

theorem modeB_bd {m : Int} (h : modeB m = true) : 1 ≤ m ∧ m ≤ 5 := by simpa [modeB] using h

theorem fits_any (a b : Int) (w : World) (ht : FitsTab w) :
    Calls Tryd.prog 6 #[.int .i64 a, .int .i64 b] w fun e w' => e = .returned (.tuple #[.bool (fitsR a b).1, .int .i64 (fitsR a b).2]) ∧ w' = w := by
  cases h : (modeB a && modeB b) with
  | true =>
    rw [Bool.and_eq_true] at h
    have h1 := modeB_bd h.1; have h2 := modeB_bd h.2
    have e : fitsR a b = (fitsF a b, 0) := by rw [fitsR, h.1, h.2]; rfl
    rw [e]
    exact fits_yes a b w ht h1.1 h1.2 h2.1 h2.2
  | false =>
    have e : fitsR a b = (false, 2) := by rw [fitsR, h]; rfl
    rw [e]
    exact fits_no a b w h

theorem joins_any (a b : Int) (w : World) (ht : JoinsTab w) :
    Calls Tryd.prog 7 #[.int .i64 a, .int .i64 b] w fun e w' => e = .returned (.tuple #[.int .i64 (joinsR a b).1, .int .i64 (joinsR a b).2]) ∧ w' = w := by
  cases h : (modeB a && modeB b) with
  | true =>
    rw [Bool.and_eq_true] at h
    have h1 := modeB_bd h.1; have h2 := modeB_bd h.2
    have e : joinsR a b = (joinsF a b, 0) := by rw [joinsR, h.1, h.2]; rfl
    rw [e]
    exact joins_yes a b w ht h1.1 h1.2 h2.1 h2.2
  | false =>
    have e : joinsR a b = (0, 2) := by rw [joinsR, h]; rfl
    rw [e]
    exact joins_no a b w h

/-- What 'picked' gives. -/
def picked (n many : Int) : Int := (if n < 0 then -(n + 1) else n) % many

theorem picked_any (n many : Int) (w : World) (h0 : -9223372036854775808 ≤ n) (h1 : n ≤ 9223372036854775807) (h2 : 1 ≤ many) (h3 : many ≤ 9223372036854775807) :
    Calls Tryd.prog 5 #[.int .i64 n, .int .i64 many] w fun e w' => e = .returned (.int .i64 (picked n many)) ∧ w' = w := by
  have hm : (many == 0) = false := by simp; omega
  by_cases h : n < 0
  · go_enter Tryd.func5, Tryd.ntmps5
    go_wp2
    go_ret
    exact ⟨ret_int (by rw [picked, if_pos h, ← Int.neg_tmod, Int.tmod_eq_emod_of_nonneg (by omega)]), rfl⟩
  · go_enter Tryd.func5, Tryd.ntmps5
    go_wp2
    go_ret
    exact ⟨ret_int (by rw [picked, if_neg (by omega)]), rfl⟩

theorem picked_bd (n m : Int) (h : 1 ≤ m) : 0 ≤ picked n m ∧ picked n m < m := by
  unfold picked; exact ⟨Int.emod_nonneg _ (by omega), Int.emod_lt_of_pos _ (by omega)⟩

end Go.Proofs.YtiaeeahoipakcaaDoor.Lk
