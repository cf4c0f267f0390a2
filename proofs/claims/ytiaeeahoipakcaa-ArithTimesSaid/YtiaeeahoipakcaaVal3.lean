/-
  Walks of package value, the end: Two of whatever op, One, Compare; the makers of values of padlockkeep.
-/
import Derived.Test.YtiaeeahoipakcaaVal2
namespace Go.Proofs.Ytiaeeahoipakcaa.Vl
open Go.RowKit Kit
set_option linter.unusedVariables false
set_option linter.unusedSimpArgs false

/-- What a call of Two, One leaves: a value and a number, that are those of r. -/
def Got2 (r : V × Int) (w : World) (e : Ending) (w' : World) : Prop :=
  ∃ k n t er, r = (⟨k, n, t⟩, er) ∧ e = .returned (.tuple #[vv k n t, .int .i64 er]) ∧ Below w.heap.size w w'

theorem Got2.of {r : V × Int} {w : World} {e : Ending} {w' : World} (h : e = .returned (two2 r) ∧ Below w.heap.size w w') : Got2 r w e w' :=
  ⟨r.1.k, r.1.n, r.1.t, r.2, rfl, h.1, h.2⟩

theorem two_any (kind : Int) (k n : Int) (t : ByteArray) (k' n' : Int) (t' : ByteArray) (w : World)
    (hb : kind < 8 ∨ (-9223372036854775808 ≤ n ∧ n ≤ 9223372036854775807) ∧ -9223372036854775808 ≤ n' ∧ n' ≤ 9223372036854775807) :
    Calls Try.prog 15 #[.int .i64 kind, vv k n t, vv k' n' t'] w (Got2 (twoR kind ⟨k, n, t⟩ ⟨k', n', t'⟩) w) := by
  by_cases h : bothF k n t k' n' t' = 0
  · have h' : (bothF k n t k' n' t' != 0) = false := by simp [h]
    by_cases h3 : kind = 3
    · refine (two_logic kind k n t k' n' t' w h' (.inl h3)).mono fun e w' q => Got2.of ?_
      rw [twoR, if_neg (by simpa using h), if_pos h3]; subst h3; exact q
    by_cases h4 : kind = 4
    · refine (two_logic kind k n t k' n' t' w h' (.inr h4)).mono fun e w' q => Got2.of ?_
      rw [twoR, if_neg (by simpa using h), if_neg h3, if_pos h4]; subst h4; exact q
    by_cases h6 : kind = 6 ∨ kind = 7
    · refine (two_cmp kind k n t k' n' t' w h' h6).mono fun e w' q => Got2.of ?_
      rw [twoR, if_neg (by simpa using h), if_neg h3, if_neg h4, if_pos h6]; exact q
    by_cases h8 : kind = 8 ∨ kind = 9 ∨ kind = 10
    · obtain ⟨⟨hn0, hn1⟩, hm0, hm1⟩ := hb.resolve_left (by omega)
      refine (two_arith kind k n t k' n' t' w h' h8 hn0 hn1 hm0 hm1).mono fun e w' q => Got2.of ?_
      rw [twoR, if_neg (by simpa using h), if_neg h3, if_neg h4, if_neg h6, if_pos h8]; exact q
    · refine (two_none kind k n t k' n' t' w h' (by simpa using h3) (by simpa using h4) (by simp; omega) (by simp; omega) (by simp; omega) (by simp; omega) (by simp; omega)).mono fun e w' q => Got2.of ?_
      rw [twoR, if_neg (by simpa using h), if_neg h3, if_neg h4, if_neg h6, if_neg h8]; exact q
  · refine (two_bad kind k n t k' n' t' w (by simp [h])).mono fun e w' q => Got2.of ?_
    rw [twoR, if_pos h]; exact q

def oneR (kind : Int) (a : V) : V × Int :=
  if checkF a.k a.n a.t ≠ 0 then (.nil, checkF a.k a.n a.t)
  else if kind = 11 then (truthV (a.k == 0), 0)
  else if kind = 5 then (if a.k = 0 then (a, 0) else if a.k = 1 then (truthV (a.n == 0), 0) else (.nil, 4))
  else (.nil, 2)

set_option maxHeartbeats 1000000 in
theorem one_any (kind : Int) (k n : Int) (t : ByteArray) (w : World) :
    Calls Try.prog 20 #[.int .i64 kind, vv k n t] w (Got2 (oneR kind ⟨k, n, t⟩) w) := by
  refine Calls.mono (R := fun e w' => e = .returned (two2 (oneR kind ⟨k, n, t⟩)) ∧ Below w.heap.size w w') ?_ fun e w' q => Got2.of q
  go_enter Try.func20, Try.ntmps20
  go_wp2_with fail
  refine (check_any _ _ _ _).mono ?_
  rintro e w1 ⟨rfl, hb⟩
  obtain ⟨hc0, hf0⟩ := keep hb w.heap.size (by simp; omega)
  obtain ⟨hc1, hf1⟩ := keep hb (w.heap.size + 1) (by simp)
  have hz0 : w.heap.size < w1.heap.size := by have := hb.size; simp at this; omega
  have hz1 : w.heap.size + 1 < w1.heap.size := by have := hb.size; simp at this; omega
  go_wp2_with fail
  all_goals try (
    refine (truth_any _ _).mono ?_
    rintro e w4 ⟨rfl, hb4⟩
    obtain ⟨hc40, hf40⟩ := keep hb4 w.heap.size (by omega)
    obtain ⟨hc41, hf41⟩ := keep hb4 (w.heap.size + 1) (by omega)
    have hv0 : w.heap.size < w4.heap.size := by have := hb4.size; omega
    have hv1 : w.heap.size + 1 < w4.heap.size := by have := hb4.size; omega
    go_wp2_with fail)
  all_goals first
    | (refine bodyPost_ret (v := two2 (V.nil, checkF k n t)) ?_ rfl ⟨ret2 ?_, ?_⟩; focus (simp [V.nil, results, Try.results20, go_sem, *]; done))
    | (refine bodyPost_ret (v := two2 (V.nil, 4)) ?_ rfl ⟨ret2 ?_, ?_⟩; focus (simp [V.nil, results, Try.results20, go_sem, *]; done))
    | (refine bodyPost_ret (v := two2 (V.nil, 2)) ?_ rfl ⟨ret2 ?_, ?_⟩; focus (simp [V.nil, results, Try.results20, go_sem, *]; done))
    | (refine bodyPost_ret (v := two2 (⟨k, n, t⟩, 0)) ?_ rfl ⟨ret2 ?_, ?_⟩; focus (simp [results, Try.results20, go_sem, *]; done))
    | (refine bodyPost_ret (v := two2 (truthV (k == 0), 0)) ?_ rfl ⟨ret2 ?_, ?_⟩; focus (simp [truthV, results, Try.results20, go_sem, *]; done))
    | (refine bodyPost_ret (v := two2 (truthV (n == 0), 0)) ?_ rfl ⟨ret2 ?_, ?_⟩; focus (simp [truthV, results, Try.results20, go_sem, *]; done))
    | skip
  all_goals first
    | (simp only [oneR]; generalize checkF k n t = c at *; grind)
    | (repeat (first | exact Below.refl _ _ | refine Below.alloc ?_ (by first | omega | (simp <;> omega)) _ | refine Below.setCell ?_ (by first | omega | (simp <;> omega)) _ | refine Below.trans ?_ (Below.mono (by assumption) (by first | omega | (simp <;> omega)))))
    | skip
  go_ways
  all_goals go_show

def cmp2R (k n : Int) (t : ByteArray) (k' n' : Int) (t' : ByteArray) : Int × Int :=
  if bothF k n t k' n' t' = 0 then (cmpF k n t k' n' t', 0) else (0, bothF k n t k' n' t')

theorem retp {a b c d : Int} {r : Int × Int} (h : r = (a, b)) : Ending.returned (.tuple #[.int .i64 a, .int .i64 b]) = .returned (.tuple #[.int .i64 r.1, .int .i64 r.2]) := by rw [h]

set_option maxHeartbeats 400000 in
theorem compare2_any (k n : Int) (t : ByteArray) (k' n' : Int) (t' : ByteArray) (w : World) :
    Calls Try.prog 14 #[vv k n t, vv k' n' t'] w fun e w' => e = .returned (.tuple #[.int .i64 (cmp2R k n t k' n' t').1, .int .i64 (cmp2R k n t k' n' t').2]) ∧ Below w.heap.size w w' := by
  by_cases h : bothF k n t k' n' t' = 0
  · have h' : (bothF k n t k' n' t' != 0) = false := by simp [h]
    have H := Lib.hid h; clear h
    go_enter Try.func14, Try.ntmps14
    go_wp2_with fail
    refine (both_any _ _ _ _ _ _ _).mono ?_
    rintro e w1 ⟨rfl, hb⟩
    obtain ⟨hc0, hf0⟩ := keep hb w.heap.size (by simp; omega)
    obtain ⟨hc1, hf1⟩ := keep hb (w.heap.size + 1) (by simp)
    have hz0 : w.heap.size < w1.heap.size := by have := hb.size; simp at this; omega
    go_wp2_with fail
    refine (compare_any _ _ _ _ _ _ _).mono ?_
    rintro e w2 ⟨rfl, hb2⟩
    go_wp2_with fail
    go_ret2
    refine ⟨retp (c := 0) (d := 0) (by rw [cmp2R, if_pos H.out]), ?_⟩
    repeat (first | exact Below.refl _ _ | refine Below.alloc ?_ (by first | omega | (simp <;> omega)) _ | refine Below.setCell ?_ (by first | omega | (simp <;> omega)) _ | refine Below.trans ?_ (Below.mono (by assumption) (by first | omega | (simp <;> omega))))
  · have h' : (bothF k n t k' n' t' != 0) = true := by simp [h]
    have H := Lib.hid h; clear h
    go_enter Try.func14, Try.ntmps14
    go_wp2_with fail
    refine (both_any _ _ _ _ _ _ _).mono ?_
    rintro e w1 ⟨rfl, hb⟩
    go_wp2_with fail
    go_ret2
    refine ⟨retp (c := 0) (d := 0) (by rw [cmp2R, if_neg H.out]), ?_⟩
    repeat (first | exact Below.refl _ _ | refine Below.alloc ?_ (by first | omega | (simp <;> omega)) _ | refine Below.setCell ?_ (by first | omega | (simp <;> omega)) _ | refine Below.trans ?_ (Below.mono (by assumption) (by first | omega | (simp <;> omega))))

/-- What a maker of a value leaves. -/
def GotV (r : V) (w : World) (e : Ending) (w' : World) : Prop :=
  ∃ k n t, r = ⟨k, n, t⟩ ∧ e = .returned (vv k n t) ∧ Below w.heap.size w w'

def valueF (k n : Int) (t : ByteArray) : V :=
  if picked k 4 = 1 then ⟨1, picked n 2, ⟨#[]⟩⟩ else if picked k 4 = 2 then ⟨2, n, ⟨#[]⟩⟩ else if picked k 4 = 3 then ⟨3, 0, cutF t 10⟩ else .nil

def truthF (n : Int) : V := if picked n 3 = 2 then .nil else ⟨1, picked n 3, ⟨#[]⟩⟩

set_option maxHeartbeats 1000000 in
theorem value_any (k n : Int) (t : ByteArray) (w : World) (hk0 : -9223372036854775808 ≤ k) (hk1 : k ≤ 9223372036854775807) (hn0 : -9223372036854775808 ≤ n) (hn1 : n ≤ 9223372036854775807) (ht : t.size ≤ maxLen) :
    Calls Try.prog 13 #[.agg #[.int .i64 k, .int .i64 n, .string t]] w (GotV (valueF k n t) w) := by
  have key : ∀ (a b : Int) (c : ByteArray) (e : Ending) (w' : World), (⟨a, b, c⟩ : V) = valueF k n t → e = .returned (vv a b c) ∧ Below w.heap.size w w' → GotV (valueF k n t) w e w' :=
    fun a b c e w' h q => ⟨a, b, c, h.symm, q.1, q.2⟩
  have Key := Lib.hid key; clear key
  go_enter Try.func13, Try.ntmps13
  go_wp2_with (first | (go_at_call 16; refine (picked_any _ _ _ (by assumption) (by assumption) (by omega) (by omega)).mono ?_; rintro e w' ⟨rfl, rfl⟩) | (go_at_call 21; refine (cut_any _ _ _ (by omega) ht).mono ?_; rintro e w' ⟨rfl, rfl⟩))
  all_goals first
    | (refine bodyPost_ret (v := vv (picked k 4) (picked n 2) ⟨#[]⟩) ?_ rfl (Key.out _ _ _ _ _ ?_ ⟨rfl, ?_⟩); focus (simp [results, Try.results13, go_sem, *]; done))
    | (refine bodyPost_ret (v := vv (picked k 4) n ⟨#[]⟩) ?_ rfl (Key.out _ _ _ _ _ ?_ ⟨rfl, ?_⟩); focus (simp [results, Try.results13, go_sem, *]; done))
    | (refine bodyPost_ret (v := vv (picked k 4) 0 (cutF t 10)) ?_ rfl (Key.out _ _ _ _ _ ?_ ⟨rfl, ?_⟩); focus (simp [results, Try.results13, go_sem, *]; done))
    | (refine bodyPost_ret (v := vv 0 0 ⟨#[]⟩) ?_ rfl (Key.out _ _ _ _ _ ?_ ⟨rfl, ?_⟩); focus (simp [results, Try.results13, go_sem, *]; done))
    | skip
  all_goals first
    | (simp only [valueF]; simp_all [V.nil]; done)
    | (repeat (first | exact Below.refl _ _ | refine Below.alloc ?_ (by first | omega | (simp <;> omega)) _ | refine Below.setCell ?_ (by first | omega | (simp <;> omega)) _ | refine Below.trans ?_ (Below.mono (by assumption) (by first | omega | (simp <;> omega)))))
    | skip
  all_goals go_show

theorem truth3_any (n : Int) (w : World) (hn0 : -9223372036854775808 ≤ n) (hn1 : n ≤ 9223372036854775807) :
    Calls Try.prog 19 #[.int .i64 n] w (GotV (truthF n) w) := by
  have key : ∀ (a b : Int) (c : ByteArray) (e : Ending) (w' : World), (⟨a, b, c⟩ : V) = truthF n → e = .returned (vv a b c) ∧ Below w.heap.size w w' → GotV (truthF n) w e w' :=
    fun a b c e w' h q => ⟨a, b, c, h.symm, q.1, q.2⟩
  have Key := Lib.hid key; clear key
  go_enter Try.func19, Try.ntmps19
  go_wp2_with (go_at_call 16; refine (picked_any _ _ _ (by assumption) (by assumption) (by omega) (by omega)).mono ?_; rintro e w' ⟨rfl, rfl⟩)
  all_goals first
    | (refine bodyPost_ret (v := vv 1 (picked n 3) ⟨#[]⟩) ?_ rfl (Key.out _ _ _ _ _ ?_ ⟨rfl, ?_⟩); focus (simp [results, Try.results19, go_sem, *]; done))
    | (refine bodyPost_ret (v := vv 0 0 ⟨#[]⟩) ?_ rfl (Key.out _ _ _ _ _ ?_ ⟨rfl, ?_⟩); focus (simp [results, Try.results19, go_sem, *]; done))
  all_goals first
    | (simp only [truthF]; simp_all [V.nil]; done)
    | (repeat (first | exact Below.refl _ _ | refine Below.alloc ?_ (by first | omega | (simp <;> omega)) _ | refine Below.setCell ?_ (by first | omega | (simp <;> omega)) _ | refine Below.trans ?_ (Below.mono (by assumption) (by first | omega | (simp <;> omega)))))

theorem number_any (n : Int) (w : World) :
    Calls Try.prog 18 #[.int .i64 n] w fun e w' => e = .returned (vv 2 n ⟨#[]⟩) ∧ Below w.heap.size w w' := by
  go_enter Try.func18, Try.ntmps18
  go_wp2
  refine bodyPost_ret (v := vv 2 n ⟨#[]⟩) (by simp [results, Try.results18, go_sem]) rfl ⟨rfl, ?_⟩
  exact ((Below.refl _ _).alloc (Nat.le_refl _) _)

/-- Two values held against each other. -/
theorem veq_run (k n : Int) (t : ByteArray) (k' n' : Int) (t' : ByteArray) (w : World) :
    (binOp .eql 24 (.agg #[.int .i64 k, .int .i64 n, .string t]) (.agg #[.int .i64 k', .int .i64 n', .string t'])).run Try.prog w = .ok (.bool (veqB k n t k' n' t')) w := by
  go_simp
  unfold veqB
  by_cases h1 : k = k' <;> by_cases h2 : n = n' <;> by_cases h3 : t.toList = t'.toList <;> simp [h1, h2, h3]

theorem vne_run (k n : Int) (t : ByteArray) (k' n' : Int) (t' : ByteArray) (w : World) :
    (binOp .neq 24 (.agg #[.int .i64 k, .int .i64 n, .string t]) (.agg #[.int .i64 k', .int .i64 n', .string t'])).run Try.prog w = .ok (.bool (!veqB k n t k' n' t')) w := by
  go_simp
  unfold veqB
  by_cases h1 : k = k' <;> by_cases h2 : n = n' <;> by_cases h3 : t.toList = t'.toList <;> simp [h1, h2, h3]

attribute [go_sem high] veq_run vne_run

end Go.Proofs.Ytiaeeahoipakcaa.Vl
