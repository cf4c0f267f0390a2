/-
  Walks of package value, on: Two, One, Compare.
-/
import Derived.Test.YtiaeeahoipakcaaValL
namespace Go.Proofs.Ytiaeeahoipakcaa.Vl
open Go.RowKit Kit
set_option linter.unusedVariables false
set_option linter.unusedSimpArgs false

def okKind (k : Int) : Prop := k = 2 ∨ k = 0
instance (k : Int) : Decidable (okKind k) := by unfold okKind; exact inferInstance

def arithF (kind a b : Int) : Int := if kind = 8 then a + b else if kind = 9 then a - b else a * b

def truthV (b : Bool) : V := ⟨1, b2i b, ⟨#[]⟩⟩

def cmpB (kind c : Int) : Bool := c == 0 && kind == 6 || c < 0 && kind == 7

def cmpR (kind : Int) (a b : V) : V × Int :=
  if a.k = 0 ∨ b.k = 0 then (.nil, 0)
  else if a.k ≠ b.k then (.nil, 4)
  else (truthV (cmpB kind (cmpF a.k a.n a.t b.k b.n b.t)), 0)

def arithR (kind : Int) (a b : V) : V × Int :=
  if ¬ okKind a.k ∨ ¬ okKind b.k then (.nil, 4)
  else if a.k = 0 ∨ b.k = 0 then (.nil, 0)
  else if fits (arithF kind a.n b.n) then (⟨2, wrap64 (arithF kind a.n b.n), ⟨#[]⟩⟩, 0) else (.nil, 5)

def twoR (kind : Int) (a b : V) : V × Int :=
  if bothF a.k a.n a.t b.k b.n b.t ≠ 0 then (.nil, bothF a.k a.n a.t b.k b.n b.t)
  else if kind = 3 then logicR a b 0
  else if kind = 4 then logicR a b 1
  else if kind = 6 ∨ kind = 7 then cmpR kind a b
  else if kind = 8 ∨ kind = 9 ∨ kind = 10 then arithR kind a b
  else (.nil, 2)

abbrev two2 (r : V × Int) : Value := .tuple #[r.1.val, .int .i64 r.2]
theorem ret2 {r s : V × Int} (h : r = s) : Ending.returned (two2 r) = .returned (two2 s) := by rw [h]


set_option maxHeartbeats 400000 in
theorem two_bad (kind : Int) (k n : Int) (t : ByteArray) (k' n' : Int) (t' : ByteArray) (w : World) (h : (bothF k n t k' n' t' != 0) = true) :
    Calls Try.prog 15 #[.int .i64 kind, vv k n t, vv k' n' t'] w fun e w' => e = .returned (.tuple #[V.nil.val, .int .i64 (bothF k n t k' n' t')]) ∧ Below w.heap.size w w' := by
  go_enter Try.func15, Try.ntmps15
  go_wp2_with fail
  refine (both_any _ _ _ _ _ _ _).mono ?_
  rintro e w1 ⟨rfl, hb⟩
  obtain ⟨hc, hf⟩ := bcell hb
  have hz := hb.size
  simp at hz
  go_wp2_with fail
  refine bodyPost_ret (v := .tuple #[V.nil.val, .int .i64 (bothF k n t k' n' t')]) ?_ rfl ⟨rfl, ?_⟩
  · simp [V.nil, results, Try.results15, go_sem, hc]
  · repeat (first | exact Below.refl _ _ | refine Below.alloc ?_ (by first | omega | (simp <;> omega)) _ | refine Below.setCell ?_ (by first | omega | (simp <;> omega)) _ | refine Below.trans ?_ (Below.mono (by assumption) (by first | omega | (simp <;> omega))))

set_option maxHeartbeats 400000 in
theorem two_logic (kind : Int) (k n : Int) (t : ByteArray) (k' n' : Int) (t' : ByteArray) (w : World) (h : (bothF k n t k' n' t' != 0) = false) (hk : kind = 3 ∨ kind = 4) :
    Calls Try.prog 15 #[.int .i64 kind, vv k n t, vv k' n' t'] w fun e w' => e = .returned (two2 (logicR ⟨k, n, t⟩ ⟨k', n', t'⟩ (kind - 3))) ∧ Below w.heap.size w w' := by
  rcases hk with rfl | rfl
  all_goals
    go_enter Try.func15, Try.ntmps15
    go_wp2_with fail
    refine (both_any _ _ _ _ _ _ _).mono ?_
    rintro e w1 ⟨rfl, hb⟩
    obtain ⟨hc, hf⟩ := bcell hb
    have hz0 : w.heap.size < w1.heap.size := by have := hb.size; simp at this; omega
    have hz1 : w.heap.size + 1 < w1.heap.size := by have := hb.size; simp at this; omega
    have hz2 : w.heap.size + 1 + 1 < w1.heap.size := by have := hb.size; simp at this; omega
    go_wp2_with fail
    refine (logic_any _ _ _ _ _ _ _ _).mono ?_
    rintro e w2 ⟨rfl, hb2⟩
    obtain ⟨hc2, hf2⟩ := bcell hb2
    go_wp2_with fail
  · refine bodyPost_ret (v := two2 (logicR ⟨k, n, t⟩ ⟨k', n', t'⟩ 0)) ?_ rfl ⟨rfl, ?_⟩
    · simp [results, Try.results15, go_sem, hz2, hc2, hc]
    · repeat (first | exact Below.refl _ _ | refine Below.alloc ?_ (by first | omega | (simp <;> omega)) _ | refine Below.setCell ?_ (by first | omega | (simp <;> omega)) _ | refine Below.trans ?_ (Below.mono (by assumption) (by first | omega | (simp <;> omega))))
  · refine bodyPost_ret (v := two2 (logicR ⟨k, n, t⟩ ⟨k', n', t'⟩ 1)) ?_ rfl ⟨rfl, ?_⟩
    · simp [results, Try.results15, go_sem, hz2, hc2, hc]
    · repeat (first | exact Below.refl _ _ | refine Below.alloc ?_ (by first | omega | (simp <;> omega)) _ | refine Below.setCell ?_ (by first | omega | (simp <;> omega)) _ | refine Below.trans ?_ (Below.mono (by assumption) (by first | omega | (simp <;> omega))))

set_option maxHeartbeats 400000 in
theorem two_none (kind : Int) (k n : Int) (t : ByteArray) (k' n' : Int) (t' : ByteArray) (w : World) (h : (bothF k n t k' n' t' != 0) = false)
    (h3 : (kind == 3) = false) (h4 : (kind == 4) = false) (h6 : (kind == 6) = false) (h7 : (kind == 7) = false) (h8 : (kind == 8) = false) (h9 : (kind == 9) = false) (h10 : (kind == 10) = false) :
    Calls Try.prog 15 #[.int .i64 kind, vv k n t, vv k' n' t'] w fun e w' => e = .returned (two2 (V.nil, 2)) ∧ Below w.heap.size w w' := by
  go_enter Try.func15, Try.ntmps15
  go_wp2_with fail
  refine (both_any _ _ _ _ _ _ _).mono ?_
  rintro e w1 ⟨rfl, hb⟩
  obtain ⟨hc, hf⟩ := bcell hb
  have hz0 : w.heap.size < w1.heap.size := by have := hb.size; simp at this; omega
  have hz1 : w.heap.size + 1 < w1.heap.size := by have := hb.size; simp at this; omega
  have hz2 : w.heap.size + 1 + 1 < w1.heap.size := by have := hb.size; simp at this; omega
  go_wp2_with fail
  refine bodyPost_ret (v := two2 (V.nil, 2)) ?_ rfl ⟨rfl, ?_⟩
  · simp [results, V.nil, Try.results15, go_sem, hc]
  · repeat (first | exact Below.refl _ _ | refine Below.alloc ?_ (by first | omega | (simp <;> omega)) _ | refine Below.setCell ?_ (by first | omega | (simp <;> omega)) _ | refine Below.trans ?_ (Below.mono (by assumption) (by first | omega | (simp <;> omega))))

set_option maxHeartbeats 1000000 in
theorem two_cmp (kind : Int) (k n : Int) (t : ByteArray) (k' n' : Int) (t' : ByteArray) (w : World) (h : (bothF k n t k' n' t' != 0) = false) (hk : kind = 6 ∨ kind = 7) :
    Calls Try.prog 15 #[.int .i64 kind, vv k n t, vv k' n' t'] w fun e w' => e = .returned (two2 (cmpR kind ⟨k, n, t⟩ ⟨k', n', t'⟩)) ∧ Below w.heap.size w w' := by
  rcases hk with rfl | rfl
  all_goals
    go_enter Try.func15, Try.ntmps15
    go_wp2_with fail
    refine (both_any _ _ _ _ _ _ _).mono ?_
    rintro e w1 ⟨rfl, hb⟩
    obtain ⟨hc, hf⟩ := bcell hb
    have hz0 : w.heap.size < w1.heap.size := by have := hb.size; simp at this; omega
    have hz1 : w.heap.size + 1 < w1.heap.size := by have := hb.size; simp at this; omega
    have hz2 : w.heap.size + 1 + 1 < w1.heap.size := by have := hb.size; simp at this; omega
    go_wp2_with fail
    refine (null_any _ _ _ _ _ _ _).mono ?_
    rintro e w2 ⟨rfl, hb2⟩
    obtain ⟨hc2, hf2⟩ := bcell hb2
    have hy0 : w.heap.size < w2.heap.size := by have := hb2.size; (try simp at this); omega
    have hy1 : w.heap.size + 1 < w2.heap.size := by have := hb2.size; (try simp at this); omega
    have hy2 : w.heap.size + 1 + 1 < w2.heap.size := by have := hb2.size; (try simp at this); omega
    go_wp2_with fail
  all_goals try (
    refine (compare_any _ _ _ _ _ _ _).mono ?_
    rintro e w3 ⟨rfl, hb3⟩
    obtain ⟨hc3, hf3⟩ := bcell hb3
    have hx0 : w.heap.size < w3.heap.size := by have := hb3.size; (try simp at this); omega
    have hx1 : w.heap.size + 1 < w3.heap.size := by have := hb3.size; (try simp at this); omega
    have hx2 : w.heap.size + 1 + 1 < w3.heap.size := by have := hb3.size; (try simp at this); omega
    go_wp2_with fail)
  all_goals try (
    refine (truth_any _ _).mono ?_
    rintro e w4 ⟨rfl, hb4⟩
    obtain ⟨hc4, hf4⟩ := bcell hb4
    have hv0 : w.heap.size < w4.heap.size := by have := hb4.size; (try simp at this); omega
    have hv1 : w.heap.size + 1 < w4.heap.size := by have := hb4.size; (try simp at this); omega
    have hv2 : w.heap.size + 1 + 1 < w4.heap.size := by have := hb4.size; (try simp at this); omega
    go_wp2_with fail)
  all_goals first
    | (refine bodyPost_ret (v := two2 (V.nil, 0)) ?_ rfl ⟨ret2 ?_, ?_⟩; focus (simp [V.nil, results, Try.results15, go_sem, *]; done))
    | (refine bodyPost_ret (v := two2 (V.nil, 4)) ?_ rfl ⟨ret2 ?_, ?_⟩; focus (simp [V.nil, results, Try.results15, go_sem, *]; done))
    | (refine bodyPost_ret (v := two2 (truthV true, 0)) ?_ rfl ⟨ret2 ?_, ?_⟩; focus (simp [truthV, results, Try.results15, go_sem, *]; done))
    | (refine bodyPost_ret (v := two2 (truthV false, 0)) ?_ rfl ⟨ret2 ?_, ?_⟩; focus (simp [truthV, results, Try.results15, go_sem, *]; done))
  all_goals first
    | (simp only [cmpR, cmpB]; generalize cmpF k n t k' n' t' = c at *; grind)
    | (repeat (first | exact Below.refl _ _ | refine Below.alloc ?_ (by first | omega | (simp <;> omega)) _ | refine Below.setCell ?_ (by first | omega | (simp <;> omega)) _ | refine Below.trans ?_ (Below.mono (by assumption) (by first | omega | (simp <;> omega)))))
  all_goals go_show

set_option maxHeartbeats 2000000 in
theorem two_arith (kind : Int) (k n : Int) (t : ByteArray) (k' n' : Int) (t' : ByteArray) (w : World) (h : (bothF k n t k' n' t' != 0) = false) (hk : kind = 8 ∨ kind = 9 ∨ kind = 10)
    (hn0 : -9223372036854775808 ≤ n) (hn1 : n ≤ 9223372036854775807) (hm0 : -9223372036854775808 ≤ n') (hm1 : n' ≤ 9223372036854775807) :
    Calls Try.prog 15 #[.int .i64 kind, vv k n t, vv k' n' t'] w fun e w' => e = .returned (two2 (arithR kind ⟨k, n, t⟩ ⟨k', n', t'⟩)) ∧ Below w.heap.size w w' := by
  have i0 := @idx0
  have i1 := @idx1
  rcases hk with rfl | rfl | rfl
  all_goals
    go_enter Try.func15, Try.ntmps15
    go_wp2_with fail
    refine (both_any _ _ _ _ _ _ _).mono ?_
    rintro e w1 ⟨rfl, hb⟩
    obtain ⟨hc, hf⟩ := bcell hb
    have hz0 : w.heap.size < w1.heap.size := by have := hb.size; simp at this; omega
    have hz1 : w.heap.size + 1 < w1.heap.size := by have := hb.size; simp at this; omega
    have hz2 : w.heap.size + 1 + 1 < w1.heap.size := by have := hb.size; simp at this; omega
    go_wp2_with fail
    refine wp_loop_rounds 3 ?_
    iterate 3 (all_goals (try simp only [rounds_succ]); all_goals go_wp2_with fail)
  all_goals try (
    refine (null_any _ _ _ _ _ _ _).mono ?_
    rintro e w2 ⟨rfl, hb2⟩
    obtain ⟨hc20, hf20⟩ := keep hb2 w.heap.size (by simp; omega)
    obtain ⟨hc21, hf21⟩ := keep hb2 (w.heap.size + 1) (by simp; omega)
    obtain ⟨hc22, hf22⟩ := keep hb2 (w.heap.size + 1 + 1) (by simp; omega)
    have hy0 : w.heap.size < w2.heap.size := by have := hb2.size; (try simp at this); omega
    have hy1 : w.heap.size + 1 < w2.heap.size := by have := hb2.size; (try simp at this); omega
    have hy2 : w.heap.size + 1 + 1 < w2.heap.size := by have := hb2.size; (try simp at this); omega
    go_wp2_with fail)
  all_goals try (
    go_at_call 27
    first
      | ((with_reducible refine (arith_add _ _ _ hn0 hn1 hm0 hm1).mono ?_); rintro e w3 ⟨rfl, rfl⟩)
      | ((with_reducible refine (arith_sub _ _ _ hn0 hn1 hm0 hm1).mono ?_); rintro e w3 ⟨rfl, rfl⟩)
      | ((with_reducible refine (arith_mul _ _ _ hn0 hn1 hm0 hm1).mono ?_); rintro e w3 ⟨rfl, rfl⟩)
    go_wp2_with fail)
  all_goals first
    | (refine bodyPost_ret (v := two2 (V.nil, 0)) ?_ rfl ⟨ret2 ?_, ?_⟩; focus (simp [V.nil, results, Try.results15, go_sem, *]; done))
    | (refine bodyPost_ret (v := two2 (V.nil, 4)) ?_ rfl ⟨ret2 ?_, ?_⟩; focus (simp [V.nil, results, Try.results15, go_sem, *]; done))
    | (refine bodyPost_ret (v := two2 (V.nil, 5)) ?_ rfl ⟨ret2 ?_, ?_⟩; focus (simp [V.nil, results, Try.results15, go_sem, *]; done))
    | (refine bodyPost_ret (v := two2 (⟨2, wrap64 (n + n'), ⟨#[]⟩⟩, 0)) ?_ rfl ⟨ret2 ?_, ?_⟩; focus (simp [results, Try.results15, go_sem, *]; done))
    | (refine bodyPost_ret (v := two2 (⟨2, wrap64 (n - n'), ⟨#[]⟩⟩, 0)) ?_ rfl ⟨ret2 ?_, ?_⟩; focus (simp [results, Try.results15, go_sem, *]; done))
    | (refine bodyPost_ret (v := two2 (⟨2, wrap64 (n * n'), ⟨#[]⟩⟩, 0)) ?_ rfl ⟨ret2 ?_, ?_⟩; focus (simp [results, Try.results15, go_sem, *]; done))
    | skip
  all_goals first
    | (simp only [arithR, arithF, okKind]; grind)
    | (repeat (first | exact Below.refl _ _ | refine Below.alloc ?_ (by first | omega | (simp <;> omega)) _ | refine Below.setCell ?_ (by first | omega | (simp <;> omega)) _ | refine Below.trans ?_ (Below.mono (by assumption) (by first | omega | (simp <;> omega)))))
    | skip
  go_ways
  all_goals go_show

end Go.Proofs.Ytiaeeahoipakcaa.Vl
