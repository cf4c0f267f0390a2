/-
  The order of values, plainly.
-/
import Derived.Test.YtiaeeahoipakcaaVal4
namespace Go.Proofs.Ytiaeeahoipakcaa.Vl
open Go.RowKit Kit
set_option linter.unusedVariables false
set_option linter.unusedSimpArgs false


theorem ci_neg (a b : Int) : Lib.compareInt a b = - Lib.compareInt b a := by unfold Lib.compareInt; split <;> split <;> omega
theorem ci_val (a b : Int) : (Lib.compareInt a b = -1 ∧ a < b) ∨ (Lib.compareInt a b = 0 ∧ a = b) ∨ (Lib.compareInt a b = 1 ∧ b < a) := by
  unfold Lib.compareInt; split
  · exact .inl ⟨rfl, by assumption⟩
  · split
    · exact .inr (.inr ⟨rfl, by omega⟩)
    · exact .inr (.inl ⟨rfl, by omega⟩)

theorem cb_cons (a b : UInt8) (xs ys : List UInt8) : Lib.compareBytes (a :: xs) (b :: ys) = if a < b then -1 else if b < a then 1 else Lib.compareBytes xs ys := rfl

theorem cb_val : ∀ a b : List UInt8, (Lib.compareBytes a b = -1 ∧ Lib.compareBytes b a = 1) ∨ (Lib.compareBytes a b = 0 ∧ Lib.compareBytes b a = 0 ∧ a = b) ∨ (Lib.compareBytes a b = 1 ∧ Lib.compareBytes b a = -1)
  | [], [] => .inr (.inl ⟨rfl, rfl, rfl⟩)
  | [], _ :: _ => .inl ⟨rfl, rfl⟩
  | _ :: _, [] => .inr (.inr ⟨rfl, rfl⟩)
  | a :: xs, b :: ys => by
    rw [cb_cons, cb_cons]
    by_cases h : a < b
    · have h' : ¬ b < a := by rw [UInt8.lt_iff_toNat_lt] at *; omega
      simp [h, h']
    · by_cases h' : b < a
      · simp [h, h']
      · have e : a = b := by rw [UInt8.lt_iff_toNat_lt] at *; exact UInt8.toNat_inj.1 (by omega)
        subst e
        simpa [h] using cb_val xs ys

theorem cb_trans : ∀ a b c : List UInt8, Lib.compareBytes a b ≤ 0 → Lib.compareBytes b c ≤ 0 → Lib.compareBytes a c ≤ 0 ∧ (Lib.compareBytes a c < 0 ↔ Lib.compareBytes a b < 0 ∨ Lib.compareBytes b c < 0)
  | [], [], [] => by simp [Lib.compareBytes]
  | [], [], _ :: _ => by simp [Lib.compareBytes]
  | [], _ :: _, [] => by simp [Lib.compareBytes]
  | [], _ :: _, _ :: _ => by simp [Lib.compareBytes]
  | _ :: _, [], _ => by simp [Lib.compareBytes]
  | _ :: _, _ :: _, [] => by simp [Lib.compareBytes]
  | a :: xs, b :: ys, c :: zs => by
    intro h1 h2
    have ih := cb_trans xs ys zs
    simp only [cb_cons, UInt8.lt_iff_toNat_lt] at h1 h2 ih ⊢
    by_cases x1 : a.toNat < b.toNat
    · by_cases x2 : b.toNat < c.toNat
      · simp [x1, x2, show a.toNat < c.toNat from by omega]
      · by_cases x3 : c.toNat < b.toNat
        · simp [x3, x2] at h2
        · simp [x1, show a.toNat < c.toNat from by omega]
    · by_cases y1 : b.toNat < a.toNat
      · simp [x1, y1] at h1
      · have e : a.toNat = b.toNat := by omega
        simp only [if_neg x1, if_neg y1] at h1 ⊢
        rw [e]
        by_cases x2 : b.toNat < c.toNat
        · simp [x2]
        · by_cases x3 : c.toNat < b.toNat
          · simp [x2, x3] at h2
          · simp only [if_neg x2, if_neg x3] at h2 ⊢
            exact ih h1 h2

theorem or3_val (a b c a' b' c' : Int) (ha : a' = -a) (hb : b' = -b) (hc : c' = -c) (va : a = -1 ∨ a = 0 ∨ a = 1) (vb : b = -1 ∨ b = 0 ∨ b = 1) (vc : c = -1 ∨ c = 0 ∨ c = 1) :
    (or3F a b c = -1 ∧ or3F a' b' c' = 1) ∨ (or3F a b c = 0 ∧ or3F a' b' c' = 0 ∧ a = 0 ∧ b = 0 ∧ c = 0) ∨ (or3F a b c = 1 ∧ or3F a' b' c' = -1) := by
  subst ha hb hc
  unfold or3F
  rcases va with rfl | rfl | rfl <;> rcases vb with rfl | rfl | rfl <;> rcases vc with rfl | rfl | rfl <;> simp

theorem bytes_eq {s t : ByteArray} (h : s.data.toList = t.data.toList) : s = t := by
  obtain ⟨⟨x⟩⟩ := s; obtain ⟨⟨y⟩⟩ := t; simp at h; rw [h]

theorem cmpF_val (k n : Int) (t : ByteArray) (k' n' : Int) (t' : ByteArray) :
    (cmpF k n t k' n' t' = -1 ∧ cmpF k' n' t' k n t = 1 ∧ veqB k n t k' n' t' = false) ∨ (cmpF k n t k' n' t' = 0 ∧ cmpF k' n' t' k n t = 0 ∧ veqB k n t k' n' t' = true) ∨ (cmpF k n t k' n' t' = 1 ∧ cmpF k' n' t' k n t = -1 ∧ veqB k n t k' n' t' = false) := by
  have vk := ci_val k k'; have vn := ci_val n n'; have vt := cb_val t.data.toList t'.data.toList
  have h := or3_val (Lib.compareInt k k') (Lib.compareInt n n') (Lib.compareBytes t.data.toList t'.data.toList) (Lib.compareInt k' k) (Lib.compareInt n' n) (Lib.compareBytes t'.data.toList t.data.toList)
    (ci_neg _ _) (ci_neg _ _) (by rcases vt with ⟨h, h'⟩ | ⟨h, h', _⟩ | ⟨h, h'⟩ <;> rw [h, h'] <;> rfl) (by rcases vk with ⟨h, _⟩ | ⟨h, _⟩ | ⟨h, _⟩ <;> simp [h]) (by rcases vn with ⟨h, _⟩ | ⟨h, _⟩ | ⟨h, _⟩ <;> simp [h]) (by rcases vt with ⟨h, _⟩ | ⟨h, _⟩ | ⟨h, _⟩ <;> simp [h])
  have hv : veqB k n t k' n' t' = true ↔ Lib.compareInt k k' = 0 ∧ Lib.compareInt n n' = 0 ∧ Lib.compareBytes t.data.toList t'.data.toList = 0 := by
    unfold veqB
    rw [ByteArray.toList_eq, ByteArray.toList_eq]
    simp only [Bool.and_eq_true, beq_iff_eq]
    constructor
    · rintro ⟨rfl, rfl, ht⟩
      rw [← ht]
      have q := cb_val t.data.toList t.data.toList
      exact ⟨by simp [Lib.compareInt], by simp [Lib.compareInt], by omega⟩
    · rintro ⟨h1, h2, h3⟩
      refine ⟨by omega, by omega, ?_⟩
      rcases vt with ⟨h, _⟩ | ⟨_, _, h⟩ | ⟨h, _⟩
      · omega
      · exact h
      · omega
  rcases h with ⟨h1, h2⟩ | ⟨h1, h2, h3⟩ | ⟨h1, h2⟩
  · refine .inl ⟨h1, h2, ?_⟩
    cases hq : veqB k n t k' n' t' with
    | false => rfl
    | true => obtain ⟨a, b, c⟩ := hv.1 hq; rw [a, b, c] at h1; simp [or3F] at h1
  · exact .inr (.inl ⟨h1, h2, hv.2 h3⟩)
  · refine .inr (.inr ⟨h1, h2, ?_⟩)
    cases hq : veqB k n t k' n' t' with
    | false => rfl
    | true => obtain ⟨a, b, c⟩ := hv.1 hq; rw [a, b, c] at h1; simp [or3F] at h1

theorem or3_trans (a b c a' b' c' x y z : Int) (va : a = -1 ∨ a = 0 ∨ a = 1) (vb : b = -1 ∨ b = 0 ∨ b = 1) (va' : a' = -1 ∨ a' = 0 ∨ a' = 1) (vb' : b' = -1 ∨ b' = 0 ∨ b' = 1)
    (h1 : a ≤ 0 → a' ≤ 0 → x ≤ 0 ∧ (x < 0 ↔ a < 0 ∨ a' < 0)) (h2 : b ≤ 0 → b' ≤ 0 → y ≤ 0 ∧ (y < 0 ↔ b < 0 ∨ b' < 0)) (h3 : c ≤ 0 → c' ≤ 0 → z ≤ 0 ∧ (z < 0 ↔ c < 0 ∨ c' < 0))
    (p : or3F a b c ≤ 0) (q : or3F a' b' c' ≤ 0) : or3F x y z ≤ 0 ∧ (or3F x y z < 0 ↔ or3F a b c < 0 ∨ or3F a' b' c' < 0) := by
  unfold or3F at *
  rcases va with rfl | rfl | rfl <;> rcases va' with rfl | rfl | rfl <;> rcases vb with rfl | rfl | rfl <;> rcases vb' with rfl | rfl | rfl <;> simp at * <;> grind

theorem ci_trans (a b c : Int) : Lib.compareInt a b ≤ 0 → Lib.compareInt b c ≤ 0 → Lib.compareInt a c ≤ 0 ∧ (Lib.compareInt a c < 0 ↔ Lib.compareInt a b < 0 ∨ Lib.compareInt b c < 0) := by
  have := ci_val a b; have := ci_val b c; have := ci_val a c; omega

theorem cmpF_trans (k n : Int) (t : ByteArray) (k' n' : Int) (t' : ByteArray) (k2 n2 : Int) (t2 : ByteArray) (h1 : cmpF k n t k' n' t' ≤ 0) (h2 : cmpF k' n' t' k2 n2 t2 ≤ 0) :
    cmpF k n t k2 n2 t2 ≤ 0 ∧ (cmpF k n t k2 n2 t2 < 0 ↔ cmpF k n t k' n' t' < 0 ∨ cmpF k' n' t' k2 n2 t2 < 0) := by
  have v1 := ci_val k k'; have v2 := ci_val k' k2; have v3 := ci_val n n'; have v4 := ci_val n' n2
  exact or3_trans _ _ _ _ _ _ _ _ _ (by omega) (by omega) (by omega) (by omega) (ci_trans _ _ _) (ci_trans _ _ _) (cb_trans _ _ _) h1 h2

theorem valueF_ok (k n : Int) (t : ByteArray) : checkF (valueF k n t).k (valueF k n t).n (valueF k n t).t = 0 := by
  have nilB := nilBytes
  have h2 : 0 ≤ picked n 2 ∧ picked n 2 < 2 := by unfold picked; omega
  have hc : (cutF t 10).size ≤ 10 := by simp [cutF]; omega
  unfold valueF
  split
  · simp [checkF, nilB]; omega
  · split
    · simp [checkF, nilB]
    · split
      · simp [checkF]; omega
      · simp [checkF, V.nil, nilB]

theorem valueF_k (k n : Int) (t : ByteArray) : (valueF k n t).k = picked k 4 ∧ 0 ≤ (valueF k n t).k ∧ (valueF k n t).k ≤ 3 := by
  have h4 : 0 ≤ picked k 4 ∧ picked k 4 < 4 := by unfold picked; omega
  unfold valueF
  split
  · simp; omega
  · split
    · simp; omega
    · split
      · simp; omega
      · simp [V.nil]; omega

theorem valueF_bd (k n : Int) (t : ByteArray) (h0 : -9223372036854775808 ≤ n) (h1 : n ≤ 9223372036854775807) : -9223372036854775808 ≤ (valueF k n t).n ∧ (valueF k n t).n ≤ 9223372036854775807 := by
  have h2 : 0 ≤ picked n 2 ∧ picked n 2 < 2 := by unfold picked; omega
  unfold valueF
  split
  · simp; omega
  · split
    · simp; omega
    · split
      · simp
      · simp [V.nil]

theorem valueF_bd2 {k n : Int} {t : ByteArray} {a b : Int} {c : ByteArray} (h : valueF k n t = ⟨a, b, c⟩) (h0 : -9223372036854775808 ≤ n) (h1 : n ≤ 9223372036854775807) : -9223372036854775808 ≤ b ∧ b ≤ 9223372036854775807 := by
  have := valueF_bd k n t h0 h1; rw [h] at this; exact this

theorem twoR_bd {kind : Int} {a b : V} {k n : Int} {t : ByteArray} {e : Int} (h : twoR kind a b = (⟨k, n, t⟩, e)) (ha : -9223372036854775808 ≤ a.n ∧ a.n ≤ 9223372036854775807) (hb : -9223372036854775808 ≤ b.n ∧ b.n ≤ 9223372036854775807) :
    -9223372036854775808 ≤ n ∧ n ≤ 9223372036854775807 := by
  have key : -9223372036854775808 ≤ (twoR kind a b).1.n ∧ (twoR kind a b).1.n ≤ 9223372036854775807 := by
    have w0 := wrap_bd (arithF kind a.n b.n)
    have l0 : ∀ d, -9223372036854775808 ≤ (logicR a b d).1.n ∧ (logicR a b d).1.n ≤ 9223372036854775807 := by
      intro d; unfold logicR
      repeat' split
      all_goals first | exact ha | exact hb | simp [V.nil]
    unfold twoR
    split
    · simp [V.nil]
    split
    · exact l0 _
    split
    · exact l0 _
    split
    · unfold cmpR truthV b2i; repeat' split
      all_goals simp [V.nil]
    split
    · unfold arithR
      repeat' split
      all_goals first | (simp [V.nil]; done) | exact w0
    · simp [V.nil]
  rw [h] at key; exact key

theorem twoR_bd2 {kind k1 n1 : Int} {t1 : ByteArray} {k2 n2 : Int} {t2 : ByteArray} {k n : Int} {t : ByteArray} {e : Int} (h : twoR kind ⟨k1, n1, t1⟩ ⟨k2, n2, t2⟩ = (⟨k, n, t⟩, e))
    (h0 : -9223372036854775808 ≤ n1) (h1 : n1 ≤ 9223372036854775807) (h2 : -9223372036854775808 ≤ n2) (h3 : n2 ≤ 9223372036854775807) :
    -9223372036854775808 ≤ n ∧ n ≤ 9223372036854775807 := twoR_bd h ⟨h0, h1⟩ ⟨h2, h3⟩

theorem picked_bd (n m : Int) (h : 1 ≤ m) : 0 ≤ picked n m ∧ picked n m < m := by
  unfold picked; exact ⟨Int.emod_nonneg _ (by omega), Int.emod_lt_of_pos _ (by omega)⟩

end Go.Proofs.Ytiaeeahoipakcaa.Vl
