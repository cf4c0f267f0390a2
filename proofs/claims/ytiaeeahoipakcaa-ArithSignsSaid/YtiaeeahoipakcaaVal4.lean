/-
  Package value, plainly: what the functions answer at truths and numbers.
-/
import Derived.Test.YtiaeeahoipakcaaVal3
namespace Go.Proofs.Ytiaeeahoipakcaa.Vl
open Go.RowKit Kit
set_option linter.unusedVariables false
set_option linter.unusedSimpArgs false

theorem both_ints (a b : Int) : bothF 2 a ⟨#[]⟩ 2 b ⟨#[]⟩ = 0 := by
  have h : (⟨#[]⟩ : ByteArray).toList = [] := by rw [ByteArray.toList_eq]
  simp [bothF, checkF, h]

theorem two_num (kind a b : Int) (hk : kind = 8 ∨ kind = 9 ∨ kind = 10) :
    twoR kind ⟨2, a, ⟨#[]⟩⟩ ⟨2, b, ⟨#[]⟩⟩ = if fits (arithF kind a b) then (⟨2, wrap64 (arithF kind a b), ⟨#[]⟩⟩, 0) else (.nil, 5) := by
  rw [twoR, if_neg (by rw [both_ints]; simp), if_neg (by omega), if_neg (by omega), if_neg (by omega), if_pos hk]
  rw [arithR, if_neg (by simp [okKind]), if_neg (by simp)]

/-- A truth, or Null. -/
def IsT (v : V) : Prop := v = .nil ∨ v = ⟨1, 0, ⟨#[]⟩⟩ ∨ v = ⟨1, 1, ⟨#[]⟩⟩

theorem truthF_isT (n : Int) : IsT (truthF n) := by
  have h : 0 ≤ picked n 3 ∧ picked n 3 < 3 := by unfold picked; omega
  unfold truthF
  by_cases h2 : picked n 3 = 2
  · rw [if_pos h2]; exact .inl rfl
  · rw [if_neg h2]
    by_cases h0 : picked n 3 = 0
    · rw [h0]; exact .inr (.inl rfl)
    · rw [show picked n 3 = 1 from by omega]; exact .inr (.inr rfl)

theorem nilBytes : (⟨#[]⟩ : ByteArray).toList = [] := by rw [ByteArray.toList_eq]

/-- What a call of Compare leaves. -/
def GotI (r : Int × Int) (w : World) (e : Ending) (w' : World) : Prop :=
  ∃ c er, r = (c, er) ∧ e = .returned (.tuple #[.int .i64 c, .int .i64 er]) ∧ Below w.heap.size w w'

theorem compare2_got (k n : Int) (t : ByteArray) (k' n' : Int) (t' : ByteArray) (w : World) :
    Calls Try.prog 14 #[vv k n t, vv k' n' t'] w (GotI (cmp2R k n t k' n' t') w) :=
  (compare2_any k n t k' n' t' w).mono fun e w' q => ⟨_, _, rfl, q.1, q.2⟩

end Go.Proofs.Ytiaeeahoipakcaa.Vl
