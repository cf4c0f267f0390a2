/-
  What the proof of LexPlace leans on, part 2 of 3: walks of the program's functions at the level of values, and plain facts of what they compute.
-/
import Derived.Test.YtdlcfkkkjklanaaDoorPLexPlace1
namespace Go.Proofs.YtdlcfkkkjklanaaDoor.Nm
open Go.RowKit V
set_option linter.unusedVariables false
set_option linter.unusedSimpArgs false

def marksB : List (List UInt8) := [[60, 61], [62, 61], [60, 62], [40], [41], [44], [42], [43], [45], [61], [60], [62]]
def marksL : List ByteArray := marksB.map fun b => ⟨b.toArray⟩
def marksC : List Value := marksL.map .string

def letterB (c : UInt8) : Bool := decide ((97 ≤ c.toNat ∧ c.toNat ≤ 122) ∨ (65 ≤ c.toNat ∧ c.toNat ≤ 90) ∨ c.toNat = 95)
def digitB (c : UInt8) : Bool := decide (48 ≤ c.toNat ∧ c.toNat ≤ 57)
def wordB (c : UInt8) : Bool := letterB c || digitB c
def spanN (p : UInt8 → Bool) (s : ByteArray) : Nat := (s.data.toList.takeWhile p).length
theorem tw_len (p : UInt8 → Bool) : ∀ (l : List UInt8) (k : Nat), k ≤ l.length → (∀ x ∈ l.take k, p x = true) → (∀ h : k < l.length, p l[k] = false) → (l.takeWhile p).length = k
  | [], k, h, _, _ => by simp at h; subst h; rfl
  | a :: r, 0, _, _, h => by
    have : p a = false := h (by simp)
    rw [List.takeWhile_cons]; simp [this]
  | a :: r, k + 1, h1, h2, h3 => by
    have ha : p a = true := h2 a (by simp)
    rw [List.takeWhile_cons, if_pos ha, List.length_cons, tw_len p r k (by simpa using h1) (fun x hx => h2 x (by rw [List.take_succ_cons]; exact List.mem_cons_of_mem _ hx)) (fun h => by have := h3 (by simpa using h); simpa using this)]
theorem span_eq {p : UInt8 → Bool} {s : ByteArray} {k : Nat} (hk : k ≤ s.size) (h0 : ∀ x ∈ s.data.toList.take k, p x = true) (h1 : k < s.size → p (byteAt s k) = false) : spanN p s = k :=
  tw_len p _ k (by rw [str_len]; exact hk) h0 fun h => by rw [byteAt_get h]; exact h1 (by rw [str_len] at h; exact h)

structure Tk where
  k : Int
  s : ByteArray
  n : Int
def cT (t : Tk) : List D := [.v (.int .i64 t.k), .v (.string t.s), .v (.int .i64 t.n)]
theorem cT_len (t : Tk) : (cT t).length = 3 := rfl
theorem cT_one (t : Tk) : (cT t).all V.one = true := rfl
def okWord (s : ByteArray) : Bool := !decide (s.size = 0) && letterB (byteAt s 0) && ((spanN wordB s : Int) == (s.size : Int))
/-- What lex.Check answers. -/
def checkT (t : Tk) : Int :=
  if t.k = 1 then (if (decide (t.n = 0) && okWord t.s) = true then 0 else 6)
  else if t.k = 2 then (if t.n < 0 then 3 else if t.s.size = 0 then 0 else 6)
  else if t.k = 3 then (if t.n = 0 then 0 else 6)
  else if t.k = 4 then (if (decide (t.n = 0) && marksL.any (eqS t.s)) = true then 0 else 6)
  else 2
theorem check_word (s : ByteArray) : checkT ⟨1, s, 0⟩ = if okWord s = true then 0 else 6 := by
  unfold checkT
  rw [if_pos rfl]
  simp

variable {G : List (Nat × List Value)}

set_option maxHeartbeats 4000000 in
set_option maxRecDepth 100000 in
theorem letter_vp (c : UInt8) : VP Tryd.prog G 25 [.v (.int .u8 ((c).toNat : Int))] (.v (.bool (letterB c))) := by
  refine VC.body Tryd.func25 rfl Tryd.ntmps25 (Nat.le_of_ble_eq_true rfl) fun X0 w0 S00 => ?_
  refine CD.seq ?_
  refine CD.region ?_
  refine OD.still (wants_plain rfl) rfl (still_as rfl opd_const) ?_
  refine OD.wk (Wk.as_ (n := 21) (l' := [(0, _)]) (S' := []) rfl rfl ⟨lk, trivial⟩) ?_
  refine OD.nil ?_
  refine CD.seq ?_
  refine CD.region ?_
  refine OD.still (wants_plain rfl) rfl (still_mv rfl ot) ?_
  refine OD.still (wants_plain rfl) rfl (still_bin rfl ot opd_const bin_geq) ?_
  refine OD.still (wants_plain rfl) rfl (still_mv rfl ot) ?_
  refine OD.split (t := 5) lk (fun hg5 => ?_) (fun hg5 => ?_)
  · have hg5' := hg5; (try simp only [decide_eq_true_eq, decide_eq_false_iff_not, beq_iff_eq, bne_iff_ne, Bool.not_eq_true', Bool.not_eq_false', Bool.not_eq_true, Bool.not_eq_false, beq_eq_false_iff_ne, ne_eq, bne_eq_false_iff_eq, Bool.and_eq_true, Bool.or_eq_true, Bool.not_not] at hg5')
    refine OD.still (wants_T rfl rfl rfl lk (by first | rfl | assumption)) rfl (still_mv rfl ot) ?_
    refine OD.still (wants_T rfl rfl rfl lk (by first | rfl | assumption)) rfl (still_bin rfl ot opd_const bin_leq) ?_
    refine OD.still (wants_plain rfl) rfl (still_pickT rfl ot (by first | rfl | assumption) ot) ?_
    refine OD.still (wants_plain rfl) rfl (still_mv rfl ot) ?_
    refine OD.split (t := 9) lk (fun hg9 => ?_) (fun hg9 => ?_)
    · have hg9' := hg9; (try simp only [decide_eq_true_eq, decide_eq_false_iff_not, beq_iff_eq, bne_iff_ne, Bool.not_eq_true', Bool.not_eq_false', Bool.not_eq_true, Bool.not_eq_false, beq_eq_false_iff_ne, ne_eq, bne_eq_false_iff_eq, Bool.and_eq_true, Bool.or_eq_true, Bool.not_not] at hg9')
      refine OD.skip (wants_F rfl rfl rfl lk (by first | rfl | assumption)) rfl ?_
      refine OD.skip (wants_F rfl rfl rfl lk (by first | rfl | assumption)) rfl ?_
      refine OD.skip (wants_F rfl rfl rfl lk (by first | rfl | assumption)) rfl ?_
      refine OD.skip (wants_J (b := false) rfl rfl rfl lk) rfl ?_
      refine OD.skip (wants_J (b := false) rfl rfl rfl lk) rfl ?_
      refine OD.skip (wants_F rfl rfl rfl lk (by first | rfl | assumption)) rfl ?_
      refine OD.still (wants_plain rfl) rfl (still_pickT rfl ot (by first | rfl | assumption) opd_const) ?_
      refine OD.still (wants_plain rfl) rfl (still_mv rfl ot) ?_
      refine OD.skip (wants_F rfl rfl rfl lk (by first | rfl | assumption)) rfl ?_
      refine OD.skip (wants_F rfl rfl rfl lk (by first | rfl | assumption)) rfl ?_
      refine OD.still (wants_plain rfl) rfl (still_pickT rfl ot (by first | rfl | assumption) opd_const) ?_
      refine OD.still (wants_plain rfl) rfl (still_as rfl ot) ?_
      refine OD.wk (Wk.as_ (n := 21) (l' := [(2, _)]) (S' := []) rfl rfl ⟨lk, trivial⟩) ?_
      refine OD.nil ?_
      refine CD.ret ?_
      refine ⟨.inr rfl, _, [], List.nil_sublist _, ret_one Tryd.results25 (res_tmp (Nat.le_of_ble_eq_true rfl) lk), ?_⟩
      refine ⟨vb ?_, rfl⟩
      rw [Bool.eq_iff_iff]
      simp [letterB]
      first | done | omega
    · have hg9' := hg9; (try simp only [decide_eq_true_eq, decide_eq_false_iff_not, beq_iff_eq, bne_iff_ne, Bool.not_eq_true', Bool.not_eq_false', Bool.not_eq_true, Bool.not_eq_false, beq_eq_false_iff_ne, ne_eq, bne_eq_false_iff_eq, Bool.and_eq_true, Bool.or_eq_true, Bool.not_not] at hg9')
      refine OD.still (wants_T rfl rfl rfl lk (by first | rfl | assumption)) rfl (still_mv rfl ot) ?_
      refine OD.still (wants_T rfl rfl rfl lk (by first | rfl | assumption)) rfl (still_bin rfl ot opd_const bin_geq) ?_
      refine OD.still (wants_T rfl rfl rfl lk (by first | rfl | assumption)) rfl (still_mv rfl ot) ?_
      refine OD.split (t := 12) lk (fun hg12 => ?_) (fun hg12 => ?_)
      · have hg12' := hg12; (try simp only [decide_eq_true_eq, decide_eq_false_iff_not, beq_iff_eq, bne_iff_ne, Bool.not_eq_true', Bool.not_eq_false', Bool.not_eq_true, Bool.not_eq_false, beq_eq_false_iff_ne, ne_eq, bne_eq_false_iff_eq, Bool.and_eq_true, Bool.or_eq_true, Bool.not_not] at hg12')
        refine OD.still (wants_T rfl rfl rfl lk (by first | rfl | assumption)) rfl (still_mv rfl ot) ?_
        refine OD.still (wants_T rfl rfl rfl lk (by first | rfl | assumption)) rfl (still_bin rfl ot opd_const bin_leq) ?_
        refine OD.still (wants_T rfl rfl rfl lk (by first | rfl | assumption)) rfl (still_pickT rfl ot (by first | rfl | assumption) ot) ?_
        refine OD.still (wants_plain rfl) rfl (still_pickF rfl ot (by first | rfl | assumption) ot) ?_
        refine OD.still (wants_plain rfl) rfl (still_mv rfl ot) ?_
        refine OD.split (t := 17) lk (fun hg17 => ?_) (fun hg17 => ?_)
        · have hg17' := hg17; (try simp only [decide_eq_true_eq, decide_eq_false_iff_not, beq_iff_eq, bne_iff_ne, Bool.not_eq_true', Bool.not_eq_false', Bool.not_eq_true, Bool.not_eq_false, beq_eq_false_iff_ne, ne_eq, bne_eq_false_iff_eq, Bool.and_eq_true, Bool.or_eq_true, Bool.not_not] at hg17')
          refine OD.skip (wants_F rfl rfl rfl lk (by first | rfl | assumption)) rfl ?_
          refine OD.skip (wants_F rfl rfl rfl lk (by first | rfl | assumption)) rfl ?_
          refine OD.still (wants_plain rfl) rfl (still_pickT rfl ot (by first | rfl | assumption) opd_const) ?_
          refine OD.still (wants_plain rfl) rfl (still_as rfl ot) ?_
          refine OD.wk (Wk.as_ (n := 21) (l' := [(2, _)]) (S' := []) rfl rfl ⟨lk, trivial⟩) ?_
          refine OD.nil ?_
          refine CD.ret ?_
          refine ⟨.inr rfl, _, [], List.nil_sublist _, ret_one Tryd.results25 (res_tmp (Nat.le_of_ble_eq_true rfl) lk), ?_⟩
          refine ⟨vb ?_, rfl⟩
          rw [Bool.eq_iff_iff]
          simp [letterB]
          first | done | omega
        · have hg17' := hg17; (try simp only [decide_eq_true_eq, decide_eq_false_iff_not, beq_iff_eq, bne_iff_ne, Bool.not_eq_true', Bool.not_eq_false', Bool.not_eq_true, Bool.not_eq_false, beq_eq_false_iff_ne, ne_eq, bne_eq_false_iff_eq, Bool.and_eq_true, Bool.or_eq_true, Bool.not_not] at hg17')
          refine OD.still (wants_T rfl rfl rfl lk (by first | rfl | assumption)) rfl (still_mv rfl ot) ?_
          refine OD.still (wants_T rfl rfl rfl lk (by first | rfl | assumption)) rfl (still_bin rfl ot opd_const bin_eql) ?_
          refine OD.still (wants_plain rfl) rfl (still_pickF rfl ot (by first | rfl | assumption) ot) ?_
          refine OD.still (wants_plain rfl) rfl (still_as rfl ot) ?_
          refine OD.wk (Wk.as_ (n := 21) (l' := [(2, _)]) (S' := []) rfl rfl ⟨lk, trivial⟩) ?_
          refine OD.nil ?_
          refine CD.ret ?_
          refine ⟨.inr rfl, _, [], List.nil_sublist _, ret_one Tryd.results25 (res_tmp (Nat.le_of_ble_eq_true rfl) lk), ?_⟩
          refine ⟨vb ?_, rfl⟩
          rw [Bool.eq_iff_iff]
          simp [letterB]
          first | done | omega
      · have hg12' := hg12; (try simp only [decide_eq_true_eq, decide_eq_false_iff_not, beq_iff_eq, bne_iff_ne, Bool.not_eq_true', Bool.not_eq_false', Bool.not_eq_true, Bool.not_eq_false, beq_eq_false_iff_ne, ne_eq, bne_eq_false_iff_eq, Bool.and_eq_true, Bool.or_eq_true, Bool.not_not] at hg12')
        refine OD.skip (wants_F rfl rfl rfl lk (by first | rfl | assumption)) rfl ?_
        refine OD.skip (wants_F rfl rfl rfl lk (by first | rfl | assumption)) rfl ?_
        refine OD.still (wants_T rfl rfl rfl lk (by first | rfl | assumption)) rfl (still_pickF rfl ot (by first | rfl | assumption) opd_const) ?_
        refine OD.still (wants_plain rfl) rfl (still_pickF rfl ot (by first | rfl | assumption) ot) ?_
        refine OD.still (wants_plain rfl) rfl (still_mv rfl ot) ?_
        refine OD.still (wants_T rfl rfl rfl lk (by first | rfl | assumption)) rfl (still_mv rfl ot) ?_
        refine OD.still (wants_T rfl rfl rfl lk (by first | rfl | assumption)) rfl (still_bin rfl ot opd_const bin_eql) ?_
        refine OD.still (wants_plain rfl) rfl (still_pickF rfl ot (by first | rfl | assumption) ot) ?_
        refine OD.still (wants_plain rfl) rfl (still_as rfl ot) ?_
        refine OD.wk (Wk.as_ (n := 21) (l' := [(2, _)]) (S' := []) rfl rfl ⟨lk, trivial⟩) ?_
        refine OD.nil ?_
        refine CD.ret ?_
        refine ⟨.inr rfl, _, [], List.nil_sublist _, ret_one Tryd.results25 (res_tmp (Nat.le_of_ble_eq_true rfl) lk), ?_⟩
        refine ⟨vb ?_, rfl⟩
        rw [Bool.eq_iff_iff]
        simp [letterB]
        first | done | omega
  · have hg5' := hg5; (try simp only [decide_eq_true_eq, decide_eq_false_iff_not, beq_iff_eq, bne_iff_ne, Bool.not_eq_true', Bool.not_eq_false', Bool.not_eq_true, Bool.not_eq_false, beq_eq_false_iff_ne, ne_eq, bne_eq_false_iff_eq, Bool.and_eq_true, Bool.or_eq_true, Bool.not_not] at hg5')
    refine OD.skip (wants_F rfl rfl rfl lk (by first | rfl | assumption)) rfl ?_
    refine OD.skip (wants_F rfl rfl rfl lk (by first | rfl | assumption)) rfl ?_
    refine OD.still (wants_plain rfl) rfl (still_pickF rfl ot (by first | rfl | assumption) opd_const) ?_
    refine OD.still (wants_plain rfl) rfl (still_mv rfl ot) ?_
    refine OD.still (wants_T rfl rfl rfl lk (by first | rfl | assumption)) rfl (still_mv rfl ot) ?_
    refine OD.still (wants_T rfl rfl rfl lk (by first | rfl | assumption)) rfl (still_bin rfl ot opd_const bin_geq) ?_
    refine OD.still (wants_T rfl rfl rfl lk (by first | rfl | assumption)) rfl (still_mv rfl ot) ?_
    refine OD.split (t := 12) lk (fun hg12 => ?_) (fun hg12 => ?_)
    · have hg12' := hg12; (try simp only [decide_eq_true_eq, decide_eq_false_iff_not, beq_iff_eq, bne_iff_ne, Bool.not_eq_true', Bool.not_eq_false', Bool.not_eq_true, Bool.not_eq_false, beq_eq_false_iff_ne, ne_eq, bne_eq_false_iff_eq, Bool.and_eq_true, Bool.or_eq_true, Bool.not_not] at hg12')
      refine OD.still (wants_T rfl rfl rfl lk (by first | rfl | assumption)) rfl (still_mv rfl ot) ?_
      refine OD.still (wants_T rfl rfl rfl lk (by first | rfl | assumption)) rfl (still_bin rfl ot opd_const bin_leq) ?_
      refine OD.still (wants_T rfl rfl rfl lk (by first | rfl | assumption)) rfl (still_pickT rfl ot (by first | rfl | assumption) ot) ?_
      refine OD.still (wants_plain rfl) rfl (still_pickF rfl ot (by first | rfl | assumption) ot) ?_
      refine OD.still (wants_plain rfl) rfl (still_mv rfl ot) ?_
      refine OD.split (t := 17) lk (fun hg17 => ?_) (fun hg17 => ?_)
      · have hg17' := hg17; (try simp only [decide_eq_true_eq, decide_eq_false_iff_not, beq_iff_eq, bne_iff_ne, Bool.not_eq_true', Bool.not_eq_false', Bool.not_eq_true, Bool.not_eq_false, beq_eq_false_iff_ne, ne_eq, bne_eq_false_iff_eq, Bool.and_eq_true, Bool.or_eq_true, Bool.not_not] at hg17')
        refine OD.skip (wants_F rfl rfl rfl lk (by first | rfl | assumption)) rfl ?_
        refine OD.skip (wants_F rfl rfl rfl lk (by first | rfl | assumption)) rfl ?_
        refine OD.still (wants_plain rfl) rfl (still_pickT rfl ot (by first | rfl | assumption) opd_const) ?_
        refine OD.still (wants_plain rfl) rfl (still_as rfl ot) ?_
        refine OD.wk (Wk.as_ (n := 21) (l' := [(2, _)]) (S' := []) rfl rfl ⟨lk, trivial⟩) ?_
        refine OD.nil ?_
        refine CD.ret ?_
        refine ⟨.inr rfl, _, [], List.nil_sublist _, ret_one Tryd.results25 (res_tmp (Nat.le_of_ble_eq_true rfl) lk), ?_⟩
        refine ⟨vb ?_, rfl⟩
        rw [Bool.eq_iff_iff]
        simp [letterB]
        first | done | omega
      · have hg17' := hg17; (try simp only [decide_eq_true_eq, decide_eq_false_iff_not, beq_iff_eq, bne_iff_ne, Bool.not_eq_true', Bool.not_eq_false', Bool.not_eq_true, Bool.not_eq_false, beq_eq_false_iff_ne, ne_eq, bne_eq_false_iff_eq, Bool.and_eq_true, Bool.or_eq_true, Bool.not_not] at hg17')
        refine OD.still (wants_T rfl rfl rfl lk (by first | rfl | assumption)) rfl (still_mv rfl ot) ?_
        refine OD.still (wants_T rfl rfl rfl lk (by first | rfl | assumption)) rfl (still_bin rfl ot opd_const bin_eql) ?_
        refine OD.still (wants_plain rfl) rfl (still_pickF rfl ot (by first | rfl | assumption) ot) ?_
        refine OD.still (wants_plain rfl) rfl (still_as rfl ot) ?_
        refine OD.wk (Wk.as_ (n := 21) (l' := [(2, _)]) (S' := []) rfl rfl ⟨lk, trivial⟩) ?_
        refine OD.nil ?_
        refine CD.ret ?_
        refine ⟨.inr rfl, _, [], List.nil_sublist _, ret_one Tryd.results25 (res_tmp (Nat.le_of_ble_eq_true rfl) lk), ?_⟩
        refine ⟨vb ?_, rfl⟩
        rw [Bool.eq_iff_iff]
        simp [letterB]
        first | done | omega
    · have hg12' := hg12; (try simp only [decide_eq_true_eq, decide_eq_false_iff_not, beq_iff_eq, bne_iff_ne, Bool.not_eq_true', Bool.not_eq_false', Bool.not_eq_true, Bool.not_eq_false, beq_eq_false_iff_ne, ne_eq, bne_eq_false_iff_eq, Bool.and_eq_true, Bool.or_eq_true, Bool.not_not] at hg12')
      refine OD.skip (wants_F rfl rfl rfl lk (by first | rfl | assumption)) rfl ?_
      refine OD.skip (wants_F rfl rfl rfl lk (by first | rfl | assumption)) rfl ?_
      refine OD.still (wants_T rfl rfl rfl lk (by first | rfl | assumption)) rfl (still_pickF rfl ot (by first | rfl | assumption) opd_const) ?_
      refine OD.still (wants_plain rfl) rfl (still_pickF rfl ot (by first | rfl | assumption) ot) ?_
      refine OD.still (wants_plain rfl) rfl (still_mv rfl ot) ?_
      refine OD.still (wants_T rfl rfl rfl lk (by first | rfl | assumption)) rfl (still_mv rfl ot) ?_
      refine OD.still (wants_T rfl rfl rfl lk (by first | rfl | assumption)) rfl (still_bin rfl ot opd_const bin_eql) ?_
      refine OD.still (wants_plain rfl) rfl (still_pickF rfl ot (by first | rfl | assumption) ot) ?_
      refine OD.still (wants_plain rfl) rfl (still_as rfl ot) ?_
      refine OD.wk (Wk.as_ (n := 21) (l' := [(2, _)]) (S' := []) rfl rfl ⟨lk, trivial⟩) ?_
      refine OD.nil ?_
      refine CD.ret ?_
      refine ⟨.inr rfl, _, [], List.nil_sublist _, ret_one Tryd.results25 (res_tmp (Nat.le_of_ble_eq_true rfl) lk), ?_⟩
      refine ⟨vb ?_, rfl⟩
      rw [Bool.eq_iff_iff]
      simp [letterB]
      first | done | omega

set_option maxHeartbeats 4000000 in
set_option maxRecDepth 100000 in
theorem digit_vp (c : UInt8) : VP Tryd.prog G 27 [.v (.int .u8 ((c).toNat : Int))] (.v (.bool (digitB c))) := by
  refine VC.body Tryd.func27 rfl Tryd.ntmps27 (Nat.le_of_ble_eq_true rfl) fun X0 w0 S00 => ?_
  refine CD.seq ?_
  refine CD.region ?_
  refine OD.still (wants_plain rfl) rfl (still_as rfl opd_const) ?_
  refine OD.wk (Wk.as_ (n := 9) (l' := [(0, _)]) (S' := []) rfl rfl ⟨lk, trivial⟩) ?_
  refine OD.nil ?_
  refine CD.seq ?_
  refine CD.region ?_
  refine OD.still (wants_plain rfl) rfl (still_mv rfl ot) ?_
  refine OD.still (wants_plain rfl) rfl (still_bin rfl ot opd_const bin_geq) ?_
  refine OD.still (wants_plain rfl) rfl (still_mv rfl ot) ?_
  refine OD.split (t := 5) lk (fun hg5 => ?_) (fun hg5 => ?_)
  · have hg5' := hg5; (try simp only [decide_eq_true_eq, decide_eq_false_iff_not, beq_iff_eq, bne_iff_ne, Bool.not_eq_true', Bool.not_eq_false', Bool.not_eq_true, Bool.not_eq_false, beq_eq_false_iff_ne, ne_eq, bne_eq_false_iff_eq, Bool.and_eq_true, Bool.or_eq_true, Bool.not_not] at hg5')
    refine OD.still (wants_T rfl rfl rfl lk (by first | rfl | assumption)) rfl (still_mv rfl ot) ?_
    refine OD.still (wants_T rfl rfl rfl lk (by first | rfl | assumption)) rfl (still_bin rfl ot opd_const bin_leq) ?_
    refine OD.still (wants_plain rfl) rfl (still_pickT rfl ot (by first | rfl | assumption) ot) ?_
    refine OD.still (wants_plain rfl) rfl (still_as rfl ot) ?_
    refine OD.wk (Wk.as_ (n := 9) (l' := [(2, _)]) (S' := []) rfl rfl ⟨lk, trivial⟩) ?_
    refine OD.nil ?_
    refine CD.ret ?_
    refine ⟨.inr rfl, _, [], List.nil_sublist _, ret_one Tryd.results27 (res_tmp (Nat.le_of_ble_eq_true rfl) lk), ?_⟩
    refine ⟨vb ?_, rfl⟩
    rw [Bool.eq_iff_iff]
    simp [digitB]
    first | done | omega
  · have hg5' := hg5; (try simp only [decide_eq_true_eq, decide_eq_false_iff_not, beq_iff_eq, bne_iff_ne, Bool.not_eq_true', Bool.not_eq_false', Bool.not_eq_true, Bool.not_eq_false, beq_eq_false_iff_ne, ne_eq, bne_eq_false_iff_eq, Bool.and_eq_true, Bool.or_eq_true, Bool.not_not] at hg5')
    refine OD.skip (wants_F rfl rfl rfl lk (by first | rfl | assumption)) rfl ?_
    refine OD.skip (wants_F rfl rfl rfl lk (by first | rfl | assumption)) rfl ?_
    refine OD.still (wants_plain rfl) rfl (still_pickF rfl ot (by first | rfl | assumption) opd_const) ?_
    refine OD.still (wants_plain rfl) rfl (still_as rfl ot) ?_
    refine OD.wk (Wk.as_ (n := 9) (l' := [(2, _)]) (S' := []) rfl rfl ⟨lk, trivial⟩) ?_
    refine OD.nil ?_
    refine CD.ret ?_
    refine ⟨.inr rfl, _, [], List.nil_sublist _, ret_one Tryd.results27 (res_tmp (Nat.le_of_ble_eq_true rfl) lk), ?_⟩
    refine ⟨vb ?_, rfl⟩
    rw [Bool.eq_iff_iff]
    simp [digitB]
    first | done | omega

set_option maxHeartbeats 4000000 in
set_option maxRecDepth 100000 in
theorem wordB_vp (c : UInt8) : VP Tryd.prog G 31 [.v (.int .u8 ((c).toNat : Int))] (.v (.bool (wordB c))) := by
  refine VC.body Tryd.func31 rfl Tryd.ntmps31 (Nat.le_of_ble_eq_true rfl) fun X0 w0 S00 => ?_
  refine CD.seq ?_
  refine CD.region ?_
  refine OD.still (wants_plain rfl) rfl (still_as rfl opd_const) ?_
  refine OD.wk (Wk.as_ (n := 9) (l' := [(0, _)]) (S' := []) rfl rfl ⟨lk, trivial⟩) ?_
  refine OD.nil ?_
  refine CD.seq ?_
  refine CD.region ?_
  refine OD.still (wants_plain rfl) rfl (still_mv rfl ot) ?_
  refine OD.callP (wants_plain rfl) rfl rfl rfl Tryd.call25 (letter_vp c) ⟨ot, trivial⟩ ?_
  refine OD.still (wants_plain rfl) rfl (still_mv rfl ot) ?_
  refine OD.split (t := 5) lk (fun hg5 => ?_) (fun hg5 => ?_)
  · have hg5' := hg5; (try simp only [decide_eq_true_eq, decide_eq_false_iff_not, beq_iff_eq, bne_iff_ne, Bool.not_eq_true', Bool.not_eq_false', Bool.not_eq_true, Bool.not_eq_false, beq_eq_false_iff_ne, ne_eq, bne_eq_false_iff_eq, Bool.and_eq_true, Bool.or_eq_true, Bool.not_not] at hg5')
    refine OD.skip (wants_F rfl rfl rfl lk (by first | rfl | assumption)) rfl ?_
    refine OD.skip (wants_F rfl rfl rfl lk (by first | rfl | assumption)) rfl ?_
    refine OD.still (wants_plain rfl) rfl (still_pickT rfl ot (by first | rfl | assumption) opd_const) ?_
    refine OD.still (wants_plain rfl) rfl (still_as rfl ot) ?_
    refine OD.wk (Wk.as_ (n := 9) (l' := [(2, _)]) (S' := []) rfl rfl ⟨lk, trivial⟩) ?_
    refine OD.nil ?_
    refine CD.ret ?_
    refine ⟨.inr rfl, _, [], List.nil_sublist _, ret_one Tryd.results31 (res_tmp (Nat.le_of_ble_eq_true rfl) lk), ?_⟩
    exact ⟨vb (by simp [wordB, *]), rfl⟩
  · have hg5' := hg5; (try simp only [decide_eq_true_eq, decide_eq_false_iff_not, beq_iff_eq, bne_iff_ne, Bool.not_eq_true', Bool.not_eq_false', Bool.not_eq_true, Bool.not_eq_false, beq_eq_false_iff_ne, ne_eq, bne_eq_false_iff_eq, Bool.and_eq_true, Bool.or_eq_true, Bool.not_not] at hg5')
    refine OD.still (wants_T rfl rfl rfl lk (by first | rfl | assumption)) rfl (still_mv rfl ot) ?_
    refine OD.callP (wants_T rfl rfl rfl lk (by first | rfl | assumption)) rfl rfl rfl Tryd.call27 (digit_vp c) ⟨ot, trivial⟩ ?_
    refine OD.still (wants_plain rfl) rfl (still_pickF rfl ot (by first | rfl | assumption) ot) ?_
    refine OD.still (wants_plain rfl) rfl (still_as rfl ot) ?_
    refine OD.wk (Wk.as_ (n := 9) (l' := [(2, _)]) (S' := []) rfl rfl ⟨lk, trivial⟩) ?_
    refine OD.nil ?_
    refine CD.ret ?_
    refine ⟨.inr rfl, _, [], List.nil_sublist _, ret_one Tryd.results31 (res_tmp (Nat.le_of_ble_eq_true rfl) lk), ?_⟩
    exact ⟨vb (by simp [wordB, *]), rfl⟩

set_option maxHeartbeats 4000000 in
set_option maxRecDepth 100000 in
theorem span_vp (s : ByteArray) (g : Nat) (p : UInt8 → Bool) (hcall : ∀ args w, (callFunc g args).run Tryd.prog w = .ok (.enter g args) w) (hp : ∀ c, VP Tryd.prog G g [.v (.int .u8 ((c).toNat : Int))] (.v (.bool (p c)))) (hs : s.size ≤ maxLen) : VP Tryd.prog G 15 [.v (.string s), .clo (.func g) []] (.v (.int .i64 (spanN p s))) := by
  refine VC.body Tryd.func15 rfl Tryd.ntmps15 (Nat.le_of_ble_eq_true rfl) fun X0 w0 S00 => ?_
  simp only [maxLen] at hs
  refine CD.seq ?_
  refine CD.region ?_
  refine OD.still (wants_plain rfl) rfl (still_as rfl opd_const) ?_
  refine OD.wk (Wk.as_ (n := 20) (l' := [(0, _), (1, _)]) (S' := []) rfl rfl ⟨lk, lk, trivial⟩) ?_
  refine OD.nil ?_
  refine CD.seq ?_
  refine CD.region ?_
  refine OD.still (wants_plain rfl) rfl (still_as rfl opd_const) ?_
  refine OD.wk (Wk.as_ (n := 20) (l' := [(0, _), (1, _), (5, _)]) (S' := []) rfl rfl ⟨lk, lk, lk, trivial⟩) ?_
  refine OD.nil ?_
  refine CD.seq ?_
  refine CD.block ?_
  refine CD.wk (Wk.asS (n := 20) (l' := [(0, .v (.string s)), (1, .clo (.func g) []), (5, .v (.int .i64 ((0) : Nat)))]) (S' := []) rfl (by repeat (first | exact List.Sublist.refl _ | apply List.Sublist.cons)) ⟨(by (repeat (first | exact look_hit | (apply look_at; focus (first | rfl | (simp; done) | (congr 2; omega))) | (apply look_miss; focus rfl))); done), (by (repeat (first | exact look_hit | (apply look_at; focus (first | rfl | (simp; done) | (congr 2; omega))) | (apply look_miss; focus rfl))); done), (by (repeat (first | exact look_hit | (apply look_at; focus (first | rfl | (simp; done) | (congr 2; omega))) | (apply look_miss; focus rfl))); done), trivial⟩) (CD.loop (fun (k : Nat) y__ => (k ≤ s.size) ∧ (∀ x ∈ s.data.toList.take k, p x = true) ∧ y__ = (⟨20, [(0, .v (.string s)), (1, .clo (.func g) []), (5, .v (.int .i64 (k : Nat)))], []⟩ : St)) (fun (k : Nat) => s.size - k) 0 ⟨(Nat.zero_le _), (by simp), rfl⟩ ?_)
  rintro k _ ⟨hk, h0, rfl⟩
  refine CD.seq ?_
  refine CD.seq ?_
  refine CD.region ?_
  refine OD.still (wants_plain rfl) rfl (still_mv rfl ot) ?_
  refine OD.still (wants_plain rfl) rfl (still_mv rfl ot) ?_
  refine OD.still (wants_plain rfl) rfl (still_slen rfl rfl ot Tryd.runUnderlying9) ?_
  refine OD.still (wants_plain rfl) rfl (still_bin rfl ot ot bin_lss) ?_
  refine OD.still (wants_plain rfl) rfl (still_mv rfl ot) ?_
  refine OD.split (t := 10) lk (fun hg10 => ?_) (fun hg10 => ?_)
  · have hg10' := hg10; (try simp only [decide_eq_true_eq, decide_eq_false_iff_not, beq_iff_eq, bne_iff_ne, Bool.not_eq_true', Bool.not_eq_false', Bool.not_eq_true, Bool.not_eq_false, beq_eq_false_iff_ne, ne_eq, bne_eq_false_iff_eq, Bool.and_eq_true, Bool.or_eq_true, Bool.not_not] at hg10')
    have hks : k < s.size := by omega
    have hkc : s[k]? = some (byteAt s k) := str_at hks
    refine OD.still (wants_T rfl rfl rfl lk (by first | rfl | assumption)) rfl (still_mv rfl ot) ?_
    refine OD.still (wants_T rfl rfl rfl lk (by first | rfl | assumption)) rfl (still_mv rfl ot) ?_
    refine OD.still (wants_T rfl rfl rfl lk (by first | rfl | assumption)) rfl (still_mv rfl ot) ?_
    refine OD.still (wants_T rfl rfl rfl lk (by first | rfl | assumption)) rfl (still_sidx rfl ot ot Tryd.runUnderlying9 rfl (by first | assumption | rfl)) ?_
    refine OD.callv (f := g) (args := [_]) (all := [_]) (wants_T rfl rfl rfl lk (by first | rfl | assumption)) rfl rfl ot hcall (hp (byteAt s k)) rfl ⟨ot, trivial⟩ (perm_none _) ?_; rintro _ S2 ⟨rfl, rfl⟩
    refine OD.still (wants_plain rfl) rfl (still_pickT rfl ot (by first | rfl | assumption) ot) ?_
    refine OD.wk (Wk.as_ (n := 20) (l' := [(0, _), (1, _), (5, _), (16, _)]) (S' := []) rfl rfl ⟨lk, lk, lk, lk, trivial⟩) ?_
    refine OD.nil ?_
    refine CD.cond ot (fun hc0 => ?_) (fun hc0 => ?_)
    · have hc0' := hc0
      (try simp only [decide_eq_true_eq, decide_eq_false_iff_not, beq_iff_eq, bne_iff_ne, Bool.not_eq_true', Bool.not_eq_false', Bool.not_eq_true, Bool.not_eq_false, beq_eq_false_iff_ne, ne_eq, bne_eq_false_iff_eq, Bool.and_eq_true, Bool.or_eq_true, Bool.not_not, Bool.and_eq_false_iff, Bool.or_eq_false_iff, Int.not_lt, Int.not_le] at hc0')
      refine CD.skip ?_
      refine CD.block ?_
      refine CD.region ?_
      refine OD.still (wants_plain rfl) rfl (still_mv rfl ot) ?_
      refine OD.still (wants_plain rfl) rfl (still_bin rfl ot opd_const (bin_add (wrap_i64 (by omega) (by omega)))) ?_
      refine OD.still (wants_plain rfl) rfl (still_as rfl ot) ?_
      refine OD.wk (Wk.as_ (n := 20) (l' := [(0, _), (1, _), (5, _)]) (S' := []) rfl rfl ⟨lk, lk, lk, trivial⟩) ?_
      refine OD.nil ?_
      refine ⟨(k + 1), ⟨20, [(0, .v (.string s)), (1, .clo (.func g) []), (5, .v (.int .i64 (((k + 1)) : Nat)))], []⟩, ?_, Wk.asS (n := 20) rfl (by repeat (first | exact List.Sublist.refl _ | apply List.Sublist.cons)) ⟨(by (repeat (first | exact look_hit | (apply look_at; focus (first | rfl | (simp; done) | (congr 2; omega))) | (apply look_miss; focus rfl))); done), (by (repeat (first | exact look_hit | (apply look_at; focus (first | rfl | (simp; done) | (congr 2; omega))) | (apply look_miss; focus rfl))); done), (by (repeat (first | exact look_hit | (apply look_at; focus (first | rfl | (simp; done) | (congr 2; omega))) | (apply look_miss; focus rfl))); done), trivial⟩, (by omega), (all_step (by rw [str_len]; exact hks) h0 (by rw [byteAt_get]; assumption)), rfl⟩
      first | omega | (simp only []; omega)
    · have hc0' := hc0
      (try simp only [decide_eq_true_eq, decide_eq_false_iff_not, beq_iff_eq, bne_iff_ne, Bool.not_eq_true', Bool.not_eq_false', Bool.not_eq_true, Bool.not_eq_false, beq_eq_false_iff_ne, ne_eq, bne_eq_false_iff_eq, Bool.and_eq_true, Bool.or_eq_true, Bool.not_not, Bool.and_eq_false_iff, Bool.or_eq_false_iff, Int.not_lt, Int.not_le] at hc0')
      refine CD.exit ?_
      refine CD.seq ?_
      refine CD.region ?_
      refine OD.still (wants_plain rfl) rfl (still_mv rfl ot) ?_
      refine OD.still (wants_plain rfl) rfl (still_as rfl ot) ?_
      refine OD.wk (Wk.as_ (n := 20) (l' := [(4, _)]) (S' := []) rfl rfl ⟨lk, trivial⟩) ?_
      refine OD.nil ?_
      refine CD.ret ?_
      refine ⟨.inr rfl, _, [], List.nil_sublist _, ret_one Tryd.results15 (res_tmp (Nat.le_of_ble_eq_true rfl) lk), ?_⟩
      refine ⟨vi ?_, rfl⟩
      first | (rw [span_eq hk h0 (fun h => by omega)]; done) | (rw [span_eq hk h0 (fun h => by assumption)]; done)
  · have hg10' := hg10; (try simp only [decide_eq_true_eq, decide_eq_false_iff_not, beq_iff_eq, bne_iff_ne, Bool.not_eq_true', Bool.not_eq_false', Bool.not_eq_true, Bool.not_eq_false, beq_eq_false_iff_ne, ne_eq, bne_eq_false_iff_eq, Bool.and_eq_true, Bool.or_eq_true, Bool.not_not] at hg10')
    refine OD.skip (wants_F rfl rfl rfl lk (by first | rfl | assumption)) rfl ?_
    refine OD.skip (wants_F rfl rfl rfl lk (by first | rfl | assumption)) rfl ?_
    refine OD.skip (wants_F rfl rfl rfl lk (by first | rfl | assumption)) rfl ?_
    refine OD.skip (wants_F rfl rfl rfl lk (by first | rfl | assumption)) rfl ?_
    refine OD.skip (wants_F rfl rfl rfl lk (by first | rfl | assumption)) rfl ?_
    refine OD.still (wants_plain rfl) rfl (still_pickF rfl ot (by first | rfl | assumption) opd_const) ?_
    refine OD.wk (Wk.as_ (n := 20) (l' := [(0, _), (1, _), (5, _), (16, _)]) (S' := []) rfl rfl ⟨lk, lk, lk, lk, trivial⟩) ?_
    refine OD.nil ?_
    refine CD.condF ot (by first | rfl | assumption) ?_
    refine CD.exit ?_
    refine CD.seq ?_
    refine CD.region ?_
    refine OD.still (wants_plain rfl) rfl (still_mv rfl ot) ?_
    refine OD.still (wants_plain rfl) rfl (still_as rfl ot) ?_
    refine OD.wk (Wk.as_ (n := 20) (l' := [(4, _)]) (S' := []) rfl rfl ⟨lk, trivial⟩) ?_
    refine OD.nil ?_
    refine CD.ret ?_
    refine ⟨.inr rfl, _, [], List.nil_sublist _, ret_one Tryd.results15 (res_tmp (Nat.le_of_ble_eq_true rfl) lk), ?_⟩
    refine ⟨vi ?_, rfl⟩
    first | (rw [span_eq hk h0 (fun h => by omega)]; done) | (rw [span_eq hk h0 (fun h => by assumption)]; done)

set_option maxHeartbeats 4000000 in
set_option maxRecDepth 100000 in
theorem index_vp (ss : List ByteArray) (s : ByteArray) (hlen : ss.length ≤ maxLen) : VP Tryd.prog G 39 [.list 1 (ss.flatMap cS) ss.length, .v (.string s)] (.v (.int .i64 (idxG (eqS s) ss))) := by
  refine VC.body Tryd.func39 rfl Tryd.ntmps39 (Nat.le_of_ble_eq_true rfl) fun X0 w0 S00 => ?_
  simp only [maxLen] at hlen
  refine CD.seq ?_
  refine CD.region ?_
  refine OD.still (wants_plain rfl) rfl (still_as rfl opd_const) ?_
  refine OD.wk (Wk.as_ (n := 19) (l' := [(0, _), (1, _)]) (S' := []) rfl rfl ⟨lk, lk, trivial⟩) ?_
  refine OD.nil ?_
  refine CD.seq ?_
  refine CD.seq ?_
  refine CD.region ?_
  refine OD.still (wants_plain rfl) rfl (still_mv rfl ot) ?_
  refine OD.still (wants_plain rfl) rfl (still_r1 (mk := fun y => .call { callee := .builtin .len, args := #[y], argTypes := #[38] }) rfl ot (by first | exact len_list rfl Tryd.runUnderlying38 | exact len_row rfl Tryd.runUnderlying38)) ?_
  refine OD.still (wants_plain rfl) rfl (still_mv rfl opd_const) ?_
  refine OD.wk (Wk.as_ (n := 19) (l' := [(0, _), (1, _), (7, _), (8, _)]) (S' := []) rfl rfl ⟨lk, lk, lk, lk, trivial⟩) ?_
  refine OD.nil ?_
  refine CD.block ?_
  refine CD.wk (Wk.asS (n := 19) (l' := [(0, .list 1 (ss.flatMap cS) ss.length), (1, .v (.string s)), (7, .v (.int .i64 ss.length)), (8, .v (.int .i64 ((0) : Nat)))]) (S' := []) rfl (by repeat (first | exact List.Sublist.refl _ | apply List.Sublist.cons)) ⟨(by (repeat (first | exact look_hit | (apply look_at; focus (first | rfl | (simp; done) | (congr 2; omega))) | (apply look_miss; focus rfl))); done), (by (repeat (first | exact look_hit | (apply look_at; focus (first | rfl | (simp; done) | (congr 2; omega))) | (apply look_miss; focus rfl))); done), (by (repeat (first | exact look_hit | (apply look_at; focus (first | rfl | (simp; done) | (congr 2; omega))) | (apply look_miss; focus rfl))); done), (by (repeat (first | exact look_hit | (apply look_at; focus (first | rfl | (simp; done) | (congr 2; omega))) | (apply look_miss; focus rfl))); done), trivial⟩) (CD.loop (fun (k : Nat) y__ => (k ≤ ss.length) ∧ (∀ x ∈ ss.take k, eqS s x = false) ∧ y__ = (⟨19, [(0, .list 1 (ss.flatMap cS) ss.length), (1, .v (.string s)), (7, .v (.int .i64 ss.length)), (8, .v (.int .i64 (k : Nat)))], []⟩ : St)) (fun (k : Nat) => ss.length - k) 0 ⟨(Nat.zero_le _), (by simp), rfl⟩ ?_)
  rintro k _ ⟨hk, h0, rfl⟩
  refine CD.seq ?_
  refine CD.region ?_
  refine OD.still (wants_plain rfl) rfl (still_bin rfl ot ot bin_lss) ?_
  refine OD.wk (Wk.as_ (n := 19) (l' := [(0, _), (1, _), (7, _), (8, _), (9, _)]) (S' := []) rfl rfl ⟨lk, lk, lk, lk, lk, trivial⟩) ?_
  refine OD.nil ?_
  refine CD.seq ?_
  refine CD.cond ot (fun hc0 => ?_) (fun hc0 => ?_)
  · have hc0' := hc0
    (try simp only [decide_eq_true_eq, decide_eq_false_iff_not, beq_iff_eq, bne_iff_ne, Bool.not_eq_true', Bool.not_eq_false', Bool.not_eq_true, Bool.not_eq_false, beq_eq_false_iff_ne, ne_eq, bne_eq_false_iff_eq, Bool.and_eq_true, Bool.or_eq_true, Bool.not_not, Bool.and_eq_false_iff, Bool.or_eq_false_iff, Int.not_lt, Int.not_le] at hc0')
    have hlt : k < ss.length := by omega
    refine CD.skip ?_
    refine CD.seq ?_
    refine CD.block ?_
    refine CD.seq ?_
    refine CD.region ?_
    refine OD.still (wants_plain rfl) rfl (still_mv rfl ot) ?_
    refine OD.still (wants_plain rfl) rfl (still_as rfl ot) ?_
    refine OD.wk (Wk.as_ (n := 19) (l' := [(0, _), (1, _), (5, _), (7, _), (8, _)]) (S' := []) rfl rfl ⟨lk, lk, lk, lk, lk, trivial⟩) ?_
    refine OD.nil ?_
    refine CD.seq ?_
    refine CD.region ?_
    refine OD.still (wants_plain rfl) rfl (still_mv rfl ot) ?_
    refine OD.still (wants_plain rfl) rfl (still_mv rfl ot) ?_
    refine OD.still (wants_plain rfl) rfl (still_mv rfl ot) ?_
    refine OD.still (wants_plain rfl) rfl (still_r2 (mk := Op.indexAddr 38) rfl ot ot (by first | exact ix_list Tryd.runUnderlying38 Tryd.sizeOf9 rfl (by first | assumption | omega) | exact ix_list (j := Int.toNat _) Tryd.runUnderlying38 Tryd.sizeOf9 (Int.toNat_of_nonneg (by omega)).symm (by omega) | exact ix_row Tryd.runUnderlying38 Tryd.sizeOf9 rfl (by first | assumption | omega) | exact ix_row (j := Int.toNat _) Tryd.runUnderlying38 Tryd.sizeOf9 (Int.toNat_of_nonneg (by omega)).symm (by omega))) ?_
    refine OD.still (wants_plain rfl) rfl (still_r1 (mk := Op.load 9) rfl ot (by first | exact ld_fm cS_len Tryd.isAgg9 (by first | assumption | omega) rfl | exact ld_fm0 cS_len Tryd.isAgg9 (by first | assumption | omega) rfl | exact ld_i Tryd.isAgg9 rfl)) ?_
    refine OD.still (wants_plain rfl) rfl (still_bin rfl ot ot bin_seql) ?_
    refine OD.wk (Wk.as_ (n := 19) (l' := [(0, _), (1, _), (5, _), (7, _), (8, _), (16, _)]) (S' := []) rfl rfl ⟨lk, lk, lk, lk, lk, lk, trivial⟩) ?_
    refine OD.nil ?_
    refine CD.cond ot (fun hc1 => ?_) (fun hc1 => ?_)
    · have hc1' := hc1
      (try simp only [decide_eq_true_eq, decide_eq_false_iff_not, beq_iff_eq, bne_iff_ne, Bool.not_eq_true', Bool.not_eq_false', Bool.not_eq_true, Bool.not_eq_false, beq_eq_false_iff_ne, ne_eq, bne_eq_false_iff_eq, Bool.and_eq_true, Bool.or_eq_true, Bool.not_not, Bool.and_eq_false_iff, Bool.or_eq_false_iff, Int.not_lt, Int.not_le] at hc1')
      refine CD.seq ?_
      refine CD.region ?_
      refine OD.still (wants_plain rfl) rfl (still_mv rfl ot) ?_
      refine OD.still (wants_plain rfl) rfl (still_as rfl ot) ?_
      refine OD.wk (Wk.as_ (n := 19) (l' := [(4, _)]) (S' := []) rfl rfl ⟨lk, trivial⟩) ?_
      refine OD.nil ?_
      refine CD.ret ?_
      refine ⟨.inr rfl, _, [], List.nil_sublist _, ret_one Tryd.results39 (res_tmp (Nat.le_of_ble_eq_true rfl) lk), ?_⟩
      refine ⟨vi ?_, rfl⟩
      first | (rw [idxG_hit (by omega) h0 hc1]; done) | (rw [idxG_none (by omega) h0]; done)
    · have hc1' := hc1
      (try simp only [decide_eq_true_eq, decide_eq_false_iff_not, beq_iff_eq, bne_iff_ne, Bool.not_eq_true', Bool.not_eq_false', Bool.not_eq_true, Bool.not_eq_false, beq_eq_false_iff_ne, ne_eq, bne_eq_false_iff_eq, Bool.and_eq_true, Bool.or_eq_true, Bool.not_not, Bool.and_eq_false_iff, Bool.or_eq_false_iff, Int.not_lt, Int.not_le] at hc1')
      refine CD.skip ?_
      refine CD.region ?_
      refine OD.still (wants_plain rfl) rfl (still_bin rfl ot opd_const (bin_add (wrap_i64 (by omega) (by omega)))) ?_
      refine OD.still (wants_plain rfl) rfl (still_mv rfl ot) ?_
      refine OD.wk (Wk.as_ (n := 19) (l' := [(0, _), (1, _), (7, _), (8, _)]) (S' := []) rfl rfl ⟨lk, lk, lk, lk, trivial⟩) ?_
      refine OD.nil ?_
      refine ⟨(k + 1), ⟨19, [(0, .list 1 (ss.flatMap cS) ss.length), (1, .v (.string s)), (7, .v (.int .i64 ss.length)), (8, .v (.int .i64 (((k + 1)) : Nat)))], []⟩, ?_, Wk.asS (n := 19) rfl (by repeat (first | exact List.Sublist.refl _ | apply List.Sublist.cons)) ⟨(by (repeat (first | exact look_hit | (apply look_at; focus (first | rfl | (simp; done) | (congr 2; omega))) | (apply look_miss; focus rfl))); done), (by (repeat (first | exact look_hit | (apply look_at; focus (first | rfl | (simp; done) | (congr 2; omega))) | (apply look_miss; focus rfl))); done), (by (repeat (first | exact look_hit | (apply look_at; focus (first | rfl | (simp; done) | (congr 2; omega))) | (apply look_miss; focus rfl))); done), (by (repeat (first | exact look_hit | (apply look_at; focus (first | rfl | (simp; done) | (congr 2; omega))) | (apply look_miss; focus rfl))); done), trivial⟩, (by omega), (all_step (by omega) h0 hc1), rfl⟩
      first | omega | (simp only []; omega)
  · have hc0' := hc0
    (try simp only [decide_eq_true_eq, decide_eq_false_iff_not, beq_iff_eq, bne_iff_ne, Bool.not_eq_true', Bool.not_eq_false', Bool.not_eq_true, Bool.not_eq_false, beq_eq_false_iff_ne, ne_eq, bne_eq_false_iff_eq, Bool.and_eq_true, Bool.or_eq_true, Bool.not_not, Bool.and_eq_false_iff, Bool.or_eq_false_iff, Int.not_lt, Int.not_le] at hc0')
    refine CD.exit ?_
    refine CD.seq ?_
    refine CD.region ?_
    refine OD.still (wants_plain rfl) rfl (still_as rfl opd_const) ?_
    refine OD.wk (Wk.as_ (n := 19) (l' := [(4, _)]) (S' := []) rfl rfl ⟨lk, trivial⟩) ?_
    refine OD.nil ?_
    refine CD.ret ?_
    refine ⟨.inr rfl, _, [], List.nil_sublist _, ret_one Tryd.results39 (res_tmp (Nat.le_of_ble_eq_true rfl) lk), ?_⟩
    refine ⟨vi ?_, rfl⟩
    first | (rw [idxG_hit (by omega) h0 hc1]; done) | (rw [idxG_none (by omega) h0]; done)

set_option maxHeartbeats 4000000 in
set_option maxRecDepth 100000 in
theorem contains_vp (ss : List ByteArray) (s : ByteArray) (hlen : ss.length ≤ maxLen) : VP Tryd.prog G 32 [.list 1 (ss.flatMap cS) ss.length, .v (.string s)] (.v (.bool (ss.any (eqS s)))) := by
  refine VC.body Tryd.func32 rfl Tryd.ntmps32 (Nat.le_of_ble_eq_true rfl) fun X0 w0 S00 => ?_
  refine CD.seq ?_
  refine CD.region ?_
  refine OD.still (wants_plain rfl) rfl (still_as rfl opd_const) ?_
  refine OD.wk (Wk.as_ (n := 9) (l' := [(0, _), (1, _)]) (S' := []) rfl rfl ⟨lk, lk, trivial⟩) ?_
  refine OD.nil ?_
  refine CD.seq ?_
  refine CD.region ?_
  refine OD.still (wants_plain rfl) rfl (still_mv rfl ot) ?_
  refine OD.still (wants_plain rfl) rfl (still_mv rfl ot) ?_
  refine OD.callP (wants_plain rfl) rfl rfl rfl Tryd.call39 (index_vp ss s hlen) ⟨ot, ot, trivial⟩ ?_
  refine OD.still (wants_plain rfl) rfl (still_bin rfl ot opd_const bin_geq) ?_
  refine OD.still (wants_plain rfl) rfl (still_as rfl ot) ?_
  refine OD.wk (Wk.as_ (n := 9) (l' := [(4, _)]) (S' := []) rfl rfl ⟨lk, trivial⟩) ?_
  refine OD.nil ?_
  refine CD.ret ?_
  refine ⟨.inr rfl, _, [], List.nil_sublist _, ret_one Tryd.results32 (res_tmp (Nat.le_of_ble_eq_true rfl) lk), ?_⟩
  exact ⟨vb idxG_any, rfl⟩

set_option maxHeartbeats 4000000 in
set_option maxRecDepth 100000 in
theorem check_vp (hm : (0, marksC) ∈ G) (t : Tk) (hs : t.s.size ≤ maxLen) : VP Tryd.prog G 18 [.agg (cT t)] (.v (.int .i64 (checkT t))) := by
  refine VC.body Tryd.func18 rfl Tryd.ntmps18 (Nat.le_of_ble_eq_true rfl) fun X0 w0 S00 => ?_
  unfold cT
  refine CD.seq ?_
  refine CD.region ?_
  refine OD.box (ds := [_, _, _]) (wants_plain rfl) rfl rfl ot rfl rfl (fun b1 => ?_)
  refine OD.still (wants_plain rfl) rfl (still_as rfl opd_const) ?_
  refine OD.wk (Wk.as_ (n := 53) (l' := [(1, _)]) (S' := [⟨b1, 30, 3, [_, _, _]⟩]) rfl rfl ⟨lk, trivial⟩) ?_
  refine OD.nil ?_
  refine CD.seq ?_
  refine CD.region ?_
  refine OD.still (wants_plain rfl) rfl (still_r1 (mk := fun y => Op.fieldAddr 30 y 2) rfl ot (by first | exact fa_ptr (off := 2) Tryd.runUnderlying30 rfl Tryd.sizeOf3 rfl | exact fa_iptr (off := 2) Tryd.runUnderlying30 rfl Tryd.sizeOf3 rfl)) ?_
  refine OD.still (wants_plain rfl) rfl (still_r1 (mk := Op.load 3) rfl ot (by first | exact ld_blk (k := 0) rfl rfl Tryd.isAgg3 rfl | exact ld_i Tryd.isAgg3 rfl)) ?_
  refine OD.still (wants_plain rfl) rfl (still_bin rfl ot opd_const bin_eql) ?_
  refine OD.still (wants_plain rfl) rfl (still_as rfl ot) ?_
  refine OD.wk (Wk.as_ (n := 53) (l' := [(1, _), (3, _)]) (S' := [⟨b1, 30, 3, [_, _, _]⟩]) rfl rfl ⟨lk, lk, trivial⟩) ?_
  refine OD.nil ?_
  refine CD.seq ?_
  refine CD.seq ?_
  refine CD.region ?_
  refine OD.still (wants_plain rfl) rfl (still_r1 (mk := fun y => Op.fieldAddr 30 y 0) rfl ot (by first | exact fa_ptr (off := 0) Tryd.runUnderlying30 rfl Tryd.sizeOf3 rfl | exact fa_iptr (off := 0) Tryd.runUnderlying30 rfl Tryd.sizeOf3 rfl)) ?_
  refine OD.still (wants_plain rfl) rfl (still_r1 (mk := Op.load 3) rfl ot (by first | exact ld_blk (k := 0) rfl rfl Tryd.isAgg3 rfl | exact ld_i Tryd.isAgg3 rfl)) ?_
  refine OD.wk (Wk.as_ (n := 53) (l' := [(1, _), (3, _), (8, _)]) (S' := [⟨b1, 30, 3, [_, _, _]⟩]) rfl rfl ⟨lk, lk, lk, trivial⟩) ?_
  refine OD.nil ?_
  refine CD.block ?_
  refine CD.seq ?_
  refine CD.region ?_
  refine OD.still (wants_plain rfl) rfl (still_bin rfl ot opd_const bin_eql) ?_
  refine OD.still (wants_plain rfl) rfl (still_as rfl ot) ?_
  refine OD.wk (Wk.as_ (n := 53) (l' := [(1, _), (3, _), (8, _), (9, _)]) (S' := [⟨b1, 30, 3, [_, _, _]⟩]) rfl rfl ⟨lk, lk, lk, lk, trivial⟩) ?_
  refine OD.nil ?_
  refine CD.cond ot (fun hc0 => ?_) (fun hc0 => ?_)
  · have hc0' := hc0
    (try simp only [decide_eq_true_eq, decide_eq_false_iff_not, beq_iff_eq, bne_iff_ne, Bool.not_eq_true', Bool.not_eq_false', Bool.not_eq_true, Bool.not_eq_false, beq_eq_false_iff_ne, ne_eq, bne_eq_false_iff_eq, Bool.and_eq_true, Bool.or_eq_true, Bool.not_not, Bool.and_eq_false_iff, Bool.or_eq_false_iff, Int.not_lt, Int.not_le] at hc0')
    refine CD.draw (bks _) (by kernel_rfl) (fun _ h => h) ?_
    refine AD0.take (i := 0) rfl (by kernel_rfl) (by kernel_rfl) (by kernel_rfl) (by repeat (first | exact NP.body | apply NP.then | apply NP.cut | apply NP.inBlock | apply NP.round)) (wants_plain rfl) rfl (still_mv rfl ot) (by exact trivial) ?_
    refine AD0.take (i := 1) rfl (by kernel_rfl) (by kernel_rfl) (by kernel_rfl) (by repeat (first | exact NP.body | apply NP.then | apply NP.cut | apply NP.inBlock | apply NP.round)) (wants_plain rfl) rfl (still_mv rfl ot) (by exact trivial) ?_
    refine AD0.split (t := 12) lk (fun hg12 => ?_) (fun hg12 => ?_)
    · have hg12' := hg12; (try simp only [decide_eq_true_eq, decide_eq_false_iff_not, beq_iff_eq, bne_iff_ne, Bool.not_eq_true', Bool.not_eq_false', Bool.not_eq_true, Bool.not_eq_false, beq_eq_false_iff_ne, ne_eq, bne_eq_false_iff_eq, Bool.and_eq_true, Bool.or_eq_true, Bool.not_not, Bool.and_eq_false_iff, Bool.or_eq_false_iff, Int.not_lt, Int.not_le] at hg12')
      refine AD0.take (i := 2) rfl (by kernel_rfl) (by kernel_rfl) (by kernel_rfl) (by repeat (first | exact NP.body | apply NP.then | apply NP.cut | apply NP.inBlock | apply NP.round)) (wants_T rfl rfl rfl lk (by first | rfl | assumption)) rfl (still_r1 (mk := fun y => Op.fieldAddr 30 y 1) rfl ot (by first | exact fa_ptr (off := 1) Tryd.runUnderlying30 rfl Tryd.sizeOf9 rfl | exact fa_iptr (off := 1) Tryd.runUnderlying30 rfl Tryd.sizeOf9 rfl)) (by exact trivial) ?_
      refine AD0.take (i := 3) rfl (by kernel_rfl) (by kernel_rfl) (by kernel_rfl) (by repeat (first | exact NP.body | apply NP.then | apply NP.cut | apply NP.inBlock | apply NP.round)) (wants_T rfl rfl rfl lk (by first | rfl | assumption)) rfl (still_r1 (mk := Op.load 9) rfl ot (by first | exact ld_blk (k := 0) rfl rfl Tryd.isAgg9 rfl | exact ld_i Tryd.isAgg9 rfl)) (by first | exact trivial | exact safe_blk (k0 := 0) rfl rfl) ?_
      refine AD0.take (i := 4) rfl (by kernel_rfl) (by kernel_rfl) (by kernel_rfl) (by repeat (first | exact NP.body | apply NP.then | apply NP.cut | apply NP.inBlock | apply NP.round)) (wants_T rfl rfl rfl lk (by first | rfl | assumption)) rfl (still_bin rfl ot opd_const bin_sneq) (by exact trivial) ?_
      refine AD0.take (i := 5) rfl (by kernel_rfl) (by kernel_rfl) (by kernel_rfl) (by repeat (first | exact NP.body | apply NP.then | apply NP.cut | apply NP.inBlock | apply NP.round)) (wants_plain rfl) rfl (still_pickT rfl ot (by first | rfl | assumption) ot) (by exact trivial) ?_
      refine AD0.take (i := 6) rfl (by kernel_rfl) (by kernel_rfl) (by kernel_rfl) (by repeat (first | exact NP.body | apply NP.then | apply NP.cut | apply NP.inBlock | apply NP.round)) (wants_plain rfl) rfl (still_mv rfl ot) (by exact trivial) ?_
      refine AD0.split (t := 17) lk (fun hg17 => ?_) (fun hg17 => ?_)
      · have hg17' := hg17; (try simp only [decide_eq_true_eq, decide_eq_false_iff_not, beq_iff_eq, bne_iff_ne, Bool.not_eq_true', Bool.not_eq_false', Bool.not_eq_true, Bool.not_eq_false, beq_eq_false_iff_ne, ne_eq, bne_eq_false_iff_eq, Bool.and_eq_true, Bool.or_eq_true, Bool.not_not, Bool.and_eq_false_iff, Bool.or_eq_false_iff, Int.not_lt, Int.not_le] at hg17')
        refine AD0.take (i := 7) rfl (by kernel_rfl) (by kernel_rfl) (by kernel_rfl) (by repeat (first | exact NP.body | apply NP.then | apply NP.cut | apply NP.inBlock | apply NP.round)) (wants_T rfl rfl rfl lk (by first | rfl | assumption)) rfl (still_r1 (mk := fun y => Op.fieldAddr 30 y 1) rfl ot (by first | exact fa_ptr (off := 1) Tryd.runUnderlying30 rfl Tryd.sizeOf9 rfl | exact fa_iptr (off := 1) Tryd.runUnderlying30 rfl Tryd.sizeOf9 rfl)) (by exact trivial) ?_
        refine AD0.take (i := 8) rfl (by kernel_rfl) (by kernel_rfl) (by kernel_rfl) (by repeat (first | exact NP.body | apply NP.then | apply NP.cut | apply NP.inBlock | apply NP.round)) (wants_T rfl rfl rfl lk (by first | rfl | assumption)) rfl (still_r1 (mk := Op.load 9) rfl ot (by first | exact ld_blk (k := 0) rfl rfl Tryd.isAgg9 rfl | exact ld_i Tryd.isAgg9 rfl)) (by first | exact trivial | exact safe_blk (k0 := 0) rfl rfl) ?_
        refine AD0.take (i := 9) rfl (by kernel_rfl) (by kernel_rfl) (by kernel_rfl) (by repeat (first | exact NP.body | apply NP.then | apply NP.cut | apply NP.inBlock | apply NP.round)) (wants_T rfl rfl rfl lk (by first | rfl | assumption)) rfl (still_sidx (c := byteAt t.s 0) rfl ot opd_const Tryd.runUnderlying9 rfl (str_at (str_ne (by assumption)))) (by exact trivial) ?_
        refine AD0.later rfl ?_
        refine AD.one (i := 10) (by kernel_rfl) ?_
        refine AStep.callP rfl (wants_T rfl rfl rfl lk (by first | rfl | assumption)) rfl rfl rfl Tryd.call25 (letter_vp _) ⟨ot, trivial⟩ ?_
        refine AD.take (i := 11) rfl (by kernel_rfl) (by kernel_rfl) (by kernel_rfl) (by repeat (first | exact NP.body | apply NP.then | apply NP.cut | apply NP.inBlock | apply NP.round)) (wants_plain rfl) rfl (still_pickT rfl ot (by first | rfl | assumption) ot) (by exact trivial) (by intro h; cases h) ?_
        refine AD.take (i := 12) rfl (by kernel_rfl) (by kernel_rfl) (by kernel_rfl) (by repeat (first | exact NP.body | apply NP.then | apply NP.cut | apply NP.inBlock | apply NP.round)) (wants_plain rfl) rfl (still_mv rfl ot) (by exact trivial) (by intro h; cases h) ?_
        refine AD.split (t := 23) lk (fun hg23 => ?_) (fun hg23 => ?_)
        · have hg23' := hg23; (try simp only [decide_eq_true_eq, decide_eq_false_iff_not, beq_iff_eq, bne_iff_ne, Bool.not_eq_true', Bool.not_eq_false', Bool.not_eq_true, Bool.not_eq_false, beq_eq_false_iff_ne, ne_eq, bne_eq_false_iff_eq, Bool.and_eq_true, Bool.or_eq_true, Bool.not_not, Bool.and_eq_false_iff, Bool.or_eq_false_iff, Int.not_lt, Int.not_le] at hg23')
          refine AD.take (i := 13) rfl (by kernel_rfl) (by kernel_rfl) (by kernel_rfl) (by repeat (first | exact NP.body | apply NP.then | apply NP.cut | apply NP.inBlock | apply NP.round)) (wants_T rfl rfl rfl lk (by first | rfl | assumption)) rfl (still_r1 (mk := fun y => Op.fieldAddr 30 y 1) rfl ot (by first | exact fa_ptr (off := 1) Tryd.runUnderlying30 rfl Tryd.sizeOf9 rfl | exact fa_iptr (off := 1) Tryd.runUnderlying30 rfl Tryd.sizeOf9 rfl)) (by exact trivial) (by intro h; cases h) ?_
          refine AD.take (i := 16) rfl (by kernel_rfl) (by kernel_rfl) (by kernel_rfl) (by repeat (first | exact NP.body | apply NP.then | apply NP.cut | apply NP.inBlock | apply NP.round)) (wants_T rfl rfl rfl lk (by first | rfl | assumption)) rfl (still_r1 (mk := fun y => Op.fieldAddr 30 y 1) rfl ot (by first | exact fa_ptr (off := 1) Tryd.runUnderlying30 rfl Tryd.sizeOf9 rfl | exact fa_iptr (off := 1) Tryd.runUnderlying30 rfl Tryd.sizeOf9 rfl)) (by exact trivial) (by intro h; cases h) ?_
          refine AD.two (i := 14) (j := 17) (by kernel_rfl) ?_ ?_
          · skip
            refine AStep.still rfl (wants_T rfl rfl rfl lk (by first | rfl | assumption)) rfl (still_r1 (mk := Op.load 9) rfl ot (by first | exact ld_blk (k := 0) rfl rfl Tryd.isAgg9 rfl | exact ld_i Tryd.isAgg9 rfl)) ?_
            refine AD.two (i := 15) (j := 17) (by kernel_rfl) ?_ ?_
            · skip
              refine AStep.callP rfl (wants_T rfl rfl rfl lk (by first | rfl | assumption)) rfl rfl rfl Tryd.call15 (span_vp t.s 31 wordB Tryd.call31 wordB_vp hs) ⟨ot, opd_func, trivial⟩ ?_
              refine AD.one (i := 17) (by kernel_rfl) ?_
              refine AStep.still rfl (wants_T rfl rfl rfl lk (by first | rfl | assumption)) rfl (still_r1 (mk := Op.load 9) rfl ot (by first | exact ld_blk (k := 0) rfl rfl Tryd.isAgg9 rfl | exact ld_i Tryd.isAgg9 rfl)) ?_
              refine AD.take (i := 18) rfl (by kernel_rfl) (by kernel_rfl) (by kernel_rfl) (by repeat (first | exact NP.body | apply NP.then | apply NP.cut | apply NP.inBlock | apply NP.round)) (wants_T rfl rfl rfl lk (by first | rfl | assumption)) rfl (still_slen rfl rfl ot Tryd.runUnderlying9) (by exact trivial) (by intro h; cases h) ?_
              refine AD.take (i := 19) rfl (by kernel_rfl) (by kernel_rfl) (by kernel_rfl) (by repeat (first | exact NP.body | apply NP.then | apply NP.cut | apply NP.inBlock | apply NP.round)) (wants_T rfl rfl rfl lk (by first | rfl | assumption)) rfl (still_bin rfl ot ot bin_eql) (by exact trivial) (by intro h; cases h) ?_
              refine AD.take (i := 20) rfl (by kernel_rfl) (by kernel_rfl) (by kernel_rfl) (by repeat (first | exact NP.body | apply NP.then | apply NP.cut | apply NP.inBlock | apply NP.round)) (wants_plain rfl) rfl (still_pickT rfl ot (by first | rfl | assumption) ot) (by exact trivial) (by intro h; cases h) ?_
              refine AD.take (i := 21) rfl (by kernel_rfl) (by kernel_rfl) (by kernel_rfl) (by repeat (first | exact NP.body | apply NP.then | apply NP.cut | apply NP.inBlock | apply NP.round)) (wants_plain rfl) rfl (still_as rfl ot) (by exact trivial) (by intro h; cases h) ?_
              refine AD.wk (y := ⟨53, [(3, _)], [⟨b1, 30, 3, [_, _, _]⟩]⟩) (Wk.as_ rfl rfl ⟨lk, trivial⟩) rfl ?_
              refine AD.done (by kernel_rfl) ?_
              refine CD.seq ?_
              refine CD.seq ?_
              refine CD.region ?_
              refine OD.still (wants_plain rfl) rfl (still_mv rfl ot) ?_
              refine OD.still (wants_plain rfl) rfl (still_un rfl ot un_not) ?_
              refine OD.wk (Wk.as_ (n := 53) (l' := [(52, _)]) (S' := [⟨b1, 30, 3, [_, _, _]⟩]) rfl rfl ⟨lk, trivial⟩) ?_
              refine OD.nil ?_
              refine CD.cond ot (fun hc5 => ?_) (fun hc5 => ?_)
              · have hc5' := hc5
                (try simp only [decide_eq_true_eq, decide_eq_false_iff_not, beq_iff_eq, bne_iff_ne, Bool.not_eq_true', Bool.not_eq_false', Bool.not_eq_true, Bool.not_eq_false, beq_eq_false_iff_ne, ne_eq, bne_eq_false_iff_eq, Bool.and_eq_true, Bool.or_eq_true, Bool.not_not, Bool.and_eq_false_iff, Bool.or_eq_false_iff, Int.not_lt, Int.not_le] at hc5')
                refine CD.seq ?_
                refine CD.region ?_
                refine OD.still (wants_plain rfl) rfl (still_as rfl opd_const) ?_
                refine OD.wk (Wk.as_ (n := 53) (l' := [(2, _)]) (S' := [⟨b1, 30, 3, [_, _, _]⟩]) rfl rfl ⟨lk, trivial⟩) ?_
                refine OD.nil ?_
                refine CD.ret ?_
                refine ⟨.inr rfl, _, [], List.nil_sublist _, ret_one Tryd.results18 (res_tmp (Nat.le_of_ble_eq_true rfl) lk), ?_⟩
                refine ⟨vi ?_, rfl⟩
                try simp only [str_eq0] at *
                simp only [checkT, okWord]
                try simp_all
                try omega
              · have hc5' := hc5
                (try simp only [decide_eq_true_eq, decide_eq_false_iff_not, beq_iff_eq, bne_iff_ne, Bool.not_eq_true', Bool.not_eq_false', Bool.not_eq_true, Bool.not_eq_false, beq_eq_false_iff_ne, ne_eq, bne_eq_false_iff_eq, Bool.and_eq_true, Bool.or_eq_true, Bool.not_not, Bool.and_eq_false_iff, Bool.or_eq_false_iff, Int.not_lt, Int.not_le] at hc5')
                refine CD.skip ?_
                refine CD.seq ?_
                refine CD.region ?_
                refine OD.still (wants_plain rfl) rfl (still_as rfl opd_const) ?_
                refine OD.wk (Wk.as_ (n := 53) (l' := [(2, _)]) (S' := [⟨b1, 30, 3, [_, _, _]⟩]) rfl rfl ⟨lk, trivial⟩) ?_
                refine OD.nil ?_
                refine CD.ret ?_
                refine ⟨.inr rfl, _, [], List.nil_sublist _, ret_one Tryd.results18 (res_tmp (Nat.le_of_ble_eq_true rfl) lk), ?_⟩
                refine ⟨vi ?_, rfl⟩
                try simp only [str_eq0] at *
                simp only [checkT, okWord]
                try simp_all
                try omega
            · skip
              refine AStep.still rfl (wants_T rfl rfl rfl lk (by first | rfl | assumption)) rfl (still_r1 (mk := Op.load 9) rfl ot (by first | exact ld_blk (k := 0) rfl rfl Tryd.isAgg9 rfl | exact ld_i Tryd.isAgg9 rfl)) ?_
              refine AD.take (i := 18) rfl (by kernel_rfl) (by kernel_rfl) (by kernel_rfl) (by repeat (first | exact NP.body | apply NP.then | apply NP.cut | apply NP.inBlock | apply NP.round)) (wants_T rfl rfl rfl lk (by first | rfl | assumption)) rfl (still_slen rfl rfl ot Tryd.runUnderlying9) (by exact trivial) (by intro h; cases h) ?_
              refine AD.one (i := 15) (by kernel_rfl) ?_
              refine AStep.callP rfl (wants_T rfl rfl rfl lk (by first | rfl | assumption)) rfl rfl rfl Tryd.call15 (span_vp t.s 31 wordB Tryd.call31 wordB_vp hs) ⟨ot, opd_func, trivial⟩ ?_
              refine AD.take (i := 19) rfl (by kernel_rfl) (by kernel_rfl) (by kernel_rfl) (by repeat (first | exact NP.body | apply NP.then | apply NP.cut | apply NP.inBlock | apply NP.round)) (wants_T rfl rfl rfl lk (by first | rfl | assumption)) rfl (still_bin rfl ot ot bin_eql) (by exact trivial) (by intro h; cases h) ?_
              refine AD.take (i := 20) rfl (by kernel_rfl) (by kernel_rfl) (by kernel_rfl) (by repeat (first | exact NP.body | apply NP.then | apply NP.cut | apply NP.inBlock | apply NP.round)) (wants_plain rfl) rfl (still_pickT rfl ot (by first | rfl | assumption) ot) (by exact trivial) (by intro h; cases h) ?_
              refine AD.take (i := 21) rfl (by kernel_rfl) (by kernel_rfl) (by kernel_rfl) (by repeat (first | exact NP.body | apply NP.then | apply NP.cut | apply NP.inBlock | apply NP.round)) (wants_plain rfl) rfl (still_as rfl ot) (by exact trivial) (by intro h; cases h) ?_
              refine AD.wk (y := ⟨53, [(3, _)], [⟨b1, 30, 3, [_, _, _]⟩]⟩) (Wk.as_ rfl rfl ⟨lk, trivial⟩) rfl ?_
              refine AD.done (by kernel_rfl) ?_
              refine CD.seq ?_
              refine CD.seq ?_
              refine CD.region ?_
              refine OD.still (wants_plain rfl) rfl (still_mv rfl ot) ?_
              refine OD.still (wants_plain rfl) rfl (still_un rfl ot un_not) ?_
              refine OD.wk (Wk.as_ (n := 53) (l' := [(52, _)]) (S' := [⟨b1, 30, 3, [_, _, _]⟩]) rfl rfl ⟨lk, trivial⟩) ?_
              refine OD.nil ?_
              refine CD.cond ot (fun hc5 => ?_) (fun hc5 => ?_)
              · have hc5' := hc5
                (try simp only [decide_eq_true_eq, decide_eq_false_iff_not, beq_iff_eq, bne_iff_ne, Bool.not_eq_true', Bool.not_eq_false', Bool.not_eq_true, Bool.not_eq_false, beq_eq_false_iff_ne, ne_eq, bne_eq_false_iff_eq, Bool.and_eq_true, Bool.or_eq_true, Bool.not_not, Bool.and_eq_false_iff, Bool.or_eq_false_iff, Int.not_lt, Int.not_le] at hc5')
                refine CD.seq ?_
                refine CD.region ?_
                refine OD.still (wants_plain rfl) rfl (still_as rfl opd_const) ?_
                refine OD.wk (Wk.as_ (n := 53) (l' := [(2, _)]) (S' := [⟨b1, 30, 3, [_, _, _]⟩]) rfl rfl ⟨lk, trivial⟩) ?_
                refine OD.nil ?_
                refine CD.ret ?_
                refine ⟨.inr rfl, _, [], List.nil_sublist _, ret_one Tryd.results18 (res_tmp (Nat.le_of_ble_eq_true rfl) lk), ?_⟩
                refine ⟨vi ?_, rfl⟩
                try simp only [str_eq0] at *
                simp only [checkT, okWord]
                try simp_all
                try omega
              · have hc5' := hc5
                (try simp only [decide_eq_true_eq, decide_eq_false_iff_not, beq_iff_eq, bne_iff_ne, Bool.not_eq_true', Bool.not_eq_false', Bool.not_eq_true, Bool.not_eq_false, beq_eq_false_iff_ne, ne_eq, bne_eq_false_iff_eq, Bool.and_eq_true, Bool.or_eq_true, Bool.not_not, Bool.and_eq_false_iff, Bool.or_eq_false_iff, Int.not_lt, Int.not_le] at hc5')
                refine CD.skip ?_
                refine CD.seq ?_
                refine CD.region ?_
                refine OD.still (wants_plain rfl) rfl (still_as rfl opd_const) ?_
                refine OD.wk (Wk.as_ (n := 53) (l' := [(2, _)]) (S' := [⟨b1, 30, 3, [_, _, _]⟩]) rfl rfl ⟨lk, trivial⟩) ?_
                refine OD.nil ?_
                refine CD.ret ?_
                refine ⟨.inr rfl, _, [], List.nil_sublist _, ret_one Tryd.results18 (res_tmp (Nat.le_of_ble_eq_true rfl) lk), ?_⟩
                refine ⟨vi ?_, rfl⟩
                try simp only [str_eq0] at *
                simp only [checkT, okWord]
                try simp_all
                try omega
          · skip
            refine AStep.still rfl (wants_T rfl rfl rfl lk (by first | rfl | assumption)) rfl (still_r1 (mk := Op.load 9) rfl ot (by first | exact ld_blk (k := 0) rfl rfl Tryd.isAgg9 rfl | exact ld_i Tryd.isAgg9 rfl)) ?_
            refine AD.take (i := 18) rfl (by kernel_rfl) (by kernel_rfl) (by kernel_rfl) (by repeat (first | exact NP.body | apply NP.then | apply NP.cut | apply NP.inBlock | apply NP.round)) (wants_T rfl rfl rfl lk (by first | rfl | assumption)) rfl (still_slen rfl rfl ot Tryd.runUnderlying9) (by exact trivial) (by intro h; cases h) ?_
            refine AD.one (i := 14) (by kernel_rfl) ?_
            refine AStep.still rfl (wants_T rfl rfl rfl lk (by first | rfl | assumption)) rfl (still_r1 (mk := Op.load 9) rfl ot (by first | exact ld_blk (k := 0) rfl rfl Tryd.isAgg9 rfl | exact ld_i Tryd.isAgg9 rfl)) ?_
            refine AD.one (i := 15) (by kernel_rfl) ?_
            refine AStep.callP rfl (wants_T rfl rfl rfl lk (by first | rfl | assumption)) rfl rfl rfl Tryd.call15 (span_vp t.s 31 wordB Tryd.call31 wordB_vp hs) ⟨ot, opd_func, trivial⟩ ?_
            refine AD.take (i := 19) rfl (by kernel_rfl) (by kernel_rfl) (by kernel_rfl) (by repeat (first | exact NP.body | apply NP.then | apply NP.cut | apply NP.inBlock | apply NP.round)) (wants_T rfl rfl rfl lk (by first | rfl | assumption)) rfl (still_bin rfl ot ot bin_eql) (by exact trivial) (by intro h; cases h) ?_
            refine AD.take (i := 20) rfl (by kernel_rfl) (by kernel_rfl) (by kernel_rfl) (by repeat (first | exact NP.body | apply NP.then | apply NP.cut | apply NP.inBlock | apply NP.round)) (wants_plain rfl) rfl (still_pickT rfl ot (by first | rfl | assumption) ot) (by exact trivial) (by intro h; cases h) ?_
            refine AD.take (i := 21) rfl (by kernel_rfl) (by kernel_rfl) (by kernel_rfl) (by repeat (first | exact NP.body | apply NP.then | apply NP.cut | apply NP.inBlock | apply NP.round)) (wants_plain rfl) rfl (still_as rfl ot) (by exact trivial) (by intro h; cases h) ?_
            refine AD.wk (y := ⟨53, [(3, _)], [⟨b1, 30, 3, [_, _, _]⟩]⟩) (Wk.as_ rfl rfl ⟨lk, trivial⟩) rfl ?_
            refine AD.done (by kernel_rfl) ?_
            refine CD.seq ?_
            refine CD.seq ?_
            refine CD.region ?_
            refine OD.still (wants_plain rfl) rfl (still_mv rfl ot) ?_
            refine OD.still (wants_plain rfl) rfl (still_un rfl ot un_not) ?_
            refine OD.wk (Wk.as_ (n := 53) (l' := [(52, _)]) (S' := [⟨b1, 30, 3, [_, _, _]⟩]) rfl rfl ⟨lk, trivial⟩) ?_
            refine OD.nil ?_
            refine CD.cond ot (fun hc5 => ?_) (fun hc5 => ?_)
            · have hc5' := hc5
              (try simp only [decide_eq_true_eq, decide_eq_false_iff_not, beq_iff_eq, bne_iff_ne, Bool.not_eq_true', Bool.not_eq_false', Bool.not_eq_true, Bool.not_eq_false, beq_eq_false_iff_ne, ne_eq, bne_eq_false_iff_eq, Bool.and_eq_true, Bool.or_eq_true, Bool.not_not, Bool.and_eq_false_iff, Bool.or_eq_false_iff, Int.not_lt, Int.not_le] at hc5')
              refine CD.seq ?_
              refine CD.region ?_
              refine OD.still (wants_plain rfl) rfl (still_as rfl opd_const) ?_
              refine OD.wk (Wk.as_ (n := 53) (l' := [(2, _)]) (S' := [⟨b1, 30, 3, [_, _, _]⟩]) rfl rfl ⟨lk, trivial⟩) ?_
              refine OD.nil ?_
              refine CD.ret ?_
              refine ⟨.inr rfl, _, [], List.nil_sublist _, ret_one Tryd.results18 (res_tmp (Nat.le_of_ble_eq_true rfl) lk), ?_⟩
              refine ⟨vi ?_, rfl⟩
              try simp only [str_eq0] at *
              simp only [checkT, okWord]
              try simp_all
              try omega
            · have hc5' := hc5
              (try simp only [decide_eq_true_eq, decide_eq_false_iff_not, beq_iff_eq, bne_iff_ne, Bool.not_eq_true', Bool.not_eq_false', Bool.not_eq_true, Bool.not_eq_false, beq_eq_false_iff_ne, ne_eq, bne_eq_false_iff_eq, Bool.and_eq_true, Bool.or_eq_true, Bool.not_not, Bool.and_eq_false_iff, Bool.or_eq_false_iff, Int.not_lt, Int.not_le] at hc5')
              refine CD.skip ?_
              refine CD.seq ?_
              refine CD.region ?_
              refine OD.still (wants_plain rfl) rfl (still_as rfl opd_const) ?_
              refine OD.wk (Wk.as_ (n := 53) (l' := [(2, _)]) (S' := [⟨b1, 30, 3, [_, _, _]⟩]) rfl rfl ⟨lk, trivial⟩) ?_
              refine OD.nil ?_
              refine CD.ret ?_
              refine ⟨.inr rfl, _, [], List.nil_sublist _, ret_one Tryd.results18 (res_tmp (Nat.le_of_ble_eq_true rfl) lk), ?_⟩
              refine ⟨vi ?_, rfl⟩
              try simp only [str_eq0] at *
              simp only [checkT, okWord]
              try simp_all
              try omega
        · have hg23' := hg23; (try simp only [decide_eq_true_eq, decide_eq_false_iff_not, beq_iff_eq, bne_iff_ne, Bool.not_eq_true', Bool.not_eq_false', Bool.not_eq_true, Bool.not_eq_false, beq_eq_false_iff_ne, ne_eq, bne_eq_false_iff_eq, Bool.and_eq_true, Bool.or_eq_true, Bool.not_not, Bool.and_eq_false_iff, Bool.or_eq_false_iff, Int.not_lt, Int.not_le] at hg23')
          refine AD.takeSkip (i := 13) rfl (by kernel_rfl) (by kernel_rfl) (by kernel_rfl) (by repeat (first | exact NP.body | apply NP.then | apply NP.cut | apply NP.inBlock | apply NP.round)) (wants_F rfl rfl rfl lk (by first | rfl | assumption)) rfl ?_
          refine AD.takeSkip (i := 16) rfl (by kernel_rfl) (by kernel_rfl) (by kernel_rfl) (by repeat (first | exact NP.body | apply NP.then | apply NP.cut | apply NP.inBlock | apply NP.round)) (wants_F rfl rfl rfl lk (by first | rfl | assumption)) rfl ?_
          refine AD.two (i := 14) (j := 17) (by kernel_rfl) ?_ ?_
          · skip
            refine AStep.skip rfl (wants_F rfl rfl rfl lk (by first | rfl | assumption)) rfl ?_
            refine AD.two (i := 15) (j := 17) (by kernel_rfl) ?_ ?_
            · skip
              refine AStep.skip rfl (wants_F rfl rfl rfl lk (by first | rfl | assumption)) rfl ?_
              refine AD.one (i := 17) (by kernel_rfl) ?_
              refine AStep.skip rfl (wants_F rfl rfl rfl lk (by first | rfl | assumption)) rfl ?_
              refine AD.takeSkip (i := 18) rfl (by kernel_rfl) (by kernel_rfl) (by kernel_rfl) (by repeat (first | exact NP.body | apply NP.then | apply NP.cut | apply NP.inBlock | apply NP.round)) (wants_F rfl rfl rfl lk (by first | rfl | assumption)) rfl ?_
              refine AD.takeSkip (i := 19) rfl (by kernel_rfl) (by kernel_rfl) (by kernel_rfl) (by repeat (first | exact NP.body | apply NP.then | apply NP.cut | apply NP.inBlock | apply NP.round)) (wants_F rfl rfl rfl lk (by first | rfl | assumption)) rfl ?_
              refine AD.take (i := 20) rfl (by kernel_rfl) (by kernel_rfl) (by kernel_rfl) (by repeat (first | exact NP.body | apply NP.then | apply NP.cut | apply NP.inBlock | apply NP.round)) (wants_plain rfl) rfl (still_pickF rfl ot (by first | rfl | assumption) opd_const) (by exact trivial) (by intro h; cases h) ?_
              refine AD.take (i := 21) rfl (by kernel_rfl) (by kernel_rfl) (by kernel_rfl) (by repeat (first | exact NP.body | apply NP.then | apply NP.cut | apply NP.inBlock | apply NP.round)) (wants_plain rfl) rfl (still_as rfl ot) (by exact trivial) (by intro h; cases h) ?_
              refine AD.wk (y := ⟨53, [(3, _)], [⟨b1, 30, 3, [_, _, _]⟩]⟩) (Wk.as_ rfl rfl ⟨lk, trivial⟩) rfl ?_
              refine AD.done (by kernel_rfl) ?_
              refine CD.seq ?_
              refine CD.seq ?_
              refine CD.region ?_
              refine OD.still (wants_plain rfl) rfl (still_mv rfl ot) ?_
              refine OD.still (wants_plain rfl) rfl (still_un rfl ot un_not) ?_
              refine OD.wk (Wk.as_ (n := 53) (l' := [(52, _)]) (S' := [⟨b1, 30, 3, [_, _, _]⟩]) rfl rfl ⟨lk, trivial⟩) ?_
              refine OD.nil ?_
              refine CD.condT ot (by first | rfl | assumption) ?_
              refine CD.seq ?_
              refine CD.region ?_
              refine OD.still (wants_plain rfl) rfl (still_as rfl opd_const) ?_
              refine OD.wk (Wk.as_ (n := 53) (l' := [(2, _)]) (S' := [⟨b1, 30, 3, [_, _, _]⟩]) rfl rfl ⟨lk, trivial⟩) ?_
              refine OD.nil ?_
              refine CD.ret ?_
              refine ⟨.inr rfl, _, [], List.nil_sublist _, ret_one Tryd.results18 (res_tmp (Nat.le_of_ble_eq_true rfl) lk), ?_⟩
              refine ⟨vi ?_, rfl⟩
              try simp only [str_eq0] at *
              simp only [checkT, okWord]
              try simp_all
              try omega
            · skip
              refine AStep.skip rfl (wants_F rfl rfl rfl lk (by first | rfl | assumption)) rfl ?_
              refine AD.takeSkip (i := 18) rfl (by kernel_rfl) (by kernel_rfl) (by kernel_rfl) (by repeat (first | exact NP.body | apply NP.then | apply NP.cut | apply NP.inBlock | apply NP.round)) (wants_F rfl rfl rfl lk (by first | rfl | assumption)) rfl ?_
              refine AD.one (i := 15) (by kernel_rfl) ?_
              refine AStep.skip rfl (wants_F rfl rfl rfl lk (by first | rfl | assumption)) rfl ?_
              refine AD.takeSkip (i := 19) rfl (by kernel_rfl) (by kernel_rfl) (by kernel_rfl) (by repeat (first | exact NP.body | apply NP.then | apply NP.cut | apply NP.inBlock | apply NP.round)) (wants_F rfl rfl rfl lk (by first | rfl | assumption)) rfl ?_
              refine AD.take (i := 20) rfl (by kernel_rfl) (by kernel_rfl) (by kernel_rfl) (by repeat (first | exact NP.body | apply NP.then | apply NP.cut | apply NP.inBlock | apply NP.round)) (wants_plain rfl) rfl (still_pickF rfl ot (by first | rfl | assumption) opd_const) (by exact trivial) (by intro h; cases h) ?_
              refine AD.take (i := 21) rfl (by kernel_rfl) (by kernel_rfl) (by kernel_rfl) (by repeat (first | exact NP.body | apply NP.then | apply NP.cut | apply NP.inBlock | apply NP.round)) (wants_plain rfl) rfl (still_as rfl ot) (by exact trivial) (by intro h; cases h) ?_
              refine AD.wk (y := ⟨53, [(3, _)], [⟨b1, 30, 3, [_, _, _]⟩]⟩) (Wk.as_ rfl rfl ⟨lk, trivial⟩) rfl ?_
              refine AD.done (by kernel_rfl) ?_
              refine CD.seq ?_
              refine CD.seq ?_
              refine CD.region ?_
              refine OD.still (wants_plain rfl) rfl (still_mv rfl ot) ?_
              refine OD.still (wants_plain rfl) rfl (still_un rfl ot un_not) ?_
              refine OD.wk (Wk.as_ (n := 53) (l' := [(52, _)]) (S' := [⟨b1, 30, 3, [_, _, _]⟩]) rfl rfl ⟨lk, trivial⟩) ?_
              refine OD.nil ?_
              refine CD.condT ot (by first | rfl | assumption) ?_
              refine CD.seq ?_
              refine CD.region ?_
              refine OD.still (wants_plain rfl) rfl (still_as rfl opd_const) ?_
              refine OD.wk (Wk.as_ (n := 53) (l' := [(2, _)]) (S' := [⟨b1, 30, 3, [_, _, _]⟩]) rfl rfl ⟨lk, trivial⟩) ?_
              refine OD.nil ?_
              refine CD.ret ?_
              refine ⟨.inr rfl, _, [], List.nil_sublist _, ret_one Tryd.results18 (res_tmp (Nat.le_of_ble_eq_true rfl) lk), ?_⟩
              refine ⟨vi ?_, rfl⟩
              try simp only [str_eq0] at *
              simp only [checkT, okWord]
              try simp_all
              try omega
          · skip
            refine AStep.skip rfl (wants_F rfl rfl rfl lk (by first | rfl | assumption)) rfl ?_
            refine AD.takeSkip (i := 18) rfl (by kernel_rfl) (by kernel_rfl) (by kernel_rfl) (by repeat (first | exact NP.body | apply NP.then | apply NP.cut | apply NP.inBlock | apply NP.round)) (wants_F rfl rfl rfl lk (by first | rfl | assumption)) rfl ?_
            refine AD.one (i := 14) (by kernel_rfl) ?_
            refine AStep.skip rfl (wants_F rfl rfl rfl lk (by first | rfl | assumption)) rfl ?_
            refine AD.one (i := 15) (by kernel_rfl) ?_
            refine AStep.skip rfl (wants_F rfl rfl rfl lk (by first | rfl | assumption)) rfl ?_
            refine AD.takeSkip (i := 19) rfl (by kernel_rfl) (by kernel_rfl) (by kernel_rfl) (by repeat (first | exact NP.body | apply NP.then | apply NP.cut | apply NP.inBlock | apply NP.round)) (wants_F rfl rfl rfl lk (by first | rfl | assumption)) rfl ?_
            refine AD.take (i := 20) rfl (by kernel_rfl) (by kernel_rfl) (by kernel_rfl) (by repeat (first | exact NP.body | apply NP.then | apply NP.cut | apply NP.inBlock | apply NP.round)) (wants_plain rfl) rfl (still_pickF rfl ot (by first | rfl | assumption) opd_const) (by exact trivial) (by intro h; cases h) ?_
            refine AD.take (i := 21) rfl (by kernel_rfl) (by kernel_rfl) (by kernel_rfl) (by repeat (first | exact NP.body | apply NP.then | apply NP.cut | apply NP.inBlock | apply NP.round)) (wants_plain rfl) rfl (still_as rfl ot) (by exact trivial) (by intro h; cases h) ?_
            refine AD.wk (y := ⟨53, [(3, _)], [⟨b1, 30, 3, [_, _, _]⟩]⟩) (Wk.as_ rfl rfl ⟨lk, trivial⟩) rfl ?_
            refine AD.done (by kernel_rfl) ?_
            refine CD.seq ?_
            refine CD.seq ?_
            refine CD.region ?_
            refine OD.still (wants_plain rfl) rfl (still_mv rfl ot) ?_
            refine OD.still (wants_plain rfl) rfl (still_un rfl ot un_not) ?_
            refine OD.wk (Wk.as_ (n := 53) (l' := [(52, _)]) (S' := [⟨b1, 30, 3, [_, _, _]⟩]) rfl rfl ⟨lk, trivial⟩) ?_
            refine OD.nil ?_
            refine CD.condT ot (by first | rfl | assumption) ?_
            refine CD.seq ?_
            refine CD.region ?_
            refine OD.still (wants_plain rfl) rfl (still_as rfl opd_const) ?_
            refine OD.wk (Wk.as_ (n := 53) (l' := [(2, _)]) (S' := [⟨b1, 30, 3, [_, _, _]⟩]) rfl rfl ⟨lk, trivial⟩) ?_
            refine OD.nil ?_
            refine CD.ret ?_
            refine ⟨.inr rfl, _, [], List.nil_sublist _, ret_one Tryd.results18 (res_tmp (Nat.le_of_ble_eq_true rfl) lk), ?_⟩
            refine ⟨vi ?_, rfl⟩
            try simp only [str_eq0] at *
            simp only [checkT, okWord]
            try simp_all
            try omega
      · have hg17' := hg17; (try simp only [decide_eq_true_eq, decide_eq_false_iff_not, beq_iff_eq, bne_iff_ne, Bool.not_eq_true', Bool.not_eq_false', Bool.not_eq_true, Bool.not_eq_false, beq_eq_false_iff_ne, ne_eq, bne_eq_false_iff_eq, Bool.and_eq_true, Bool.or_eq_true, Bool.not_not, Bool.and_eq_false_iff, Bool.or_eq_false_iff, Int.not_lt, Int.not_le] at hg17')
        refine AD0.takeSkip (i := 7) rfl (by kernel_rfl) (by kernel_rfl) (by kernel_rfl) (by repeat (first | exact NP.body | apply NP.then | apply NP.cut | apply NP.inBlock | apply NP.round)) (wants_F rfl rfl rfl lk (by first | rfl | assumption)) rfl ?_
        refine AD0.takeSkip (i := 8) rfl (by kernel_rfl) (by kernel_rfl) (by kernel_rfl) (by repeat (first | exact NP.body | apply NP.then | apply NP.cut | apply NP.inBlock | apply NP.round)) (wants_F rfl rfl rfl lk (by first | rfl | assumption)) rfl ?_
        refine AD0.takeSkip (i := 9) rfl (by kernel_rfl) (by kernel_rfl) (by kernel_rfl) (by repeat (first | exact NP.body | apply NP.then | apply NP.cut | apply NP.inBlock | apply NP.round)) (wants_F rfl rfl rfl lk (by first | rfl | assumption)) rfl ?_
        refine AD0.later rfl ?_
        refine AD.one (i := 10) (by kernel_rfl) ?_
        refine AStep.skip rfl (wants_F rfl rfl rfl lk (by first | rfl | assumption)) rfl ?_
        refine AD.take (i := 11) rfl (by kernel_rfl) (by kernel_rfl) (by kernel_rfl) (by repeat (first | exact NP.body | apply NP.then | apply NP.cut | apply NP.inBlock | apply NP.round)) (wants_plain rfl) rfl (still_pickF rfl ot (by first | rfl | assumption) opd_const) (by exact trivial) (by intro h; cases h) ?_
        refine AD.take (i := 12) rfl (by kernel_rfl) (by kernel_rfl) (by kernel_rfl) (by repeat (first | exact NP.body | apply NP.then | apply NP.cut | apply NP.inBlock | apply NP.round)) (wants_plain rfl) rfl (still_mv rfl ot) (by exact trivial) (by intro h; cases h) ?_
        refine AD.takeSkip (i := 13) rfl (by kernel_rfl) (by kernel_rfl) (by kernel_rfl) (by repeat (first | exact NP.body | apply NP.then | apply NP.cut | apply NP.inBlock | apply NP.round)) (wants_F rfl rfl rfl lk (by first | rfl | assumption)) rfl ?_
        refine AD.takeSkip (i := 16) rfl (by kernel_rfl) (by kernel_rfl) (by kernel_rfl) (by repeat (first | exact NP.body | apply NP.then | apply NP.cut | apply NP.inBlock | apply NP.round)) (wants_F rfl rfl rfl lk (by first | rfl | assumption)) rfl ?_
        refine AD.two (i := 14) (j := 17) (by kernel_rfl) ?_ ?_
        · skip
          refine AStep.skip rfl (wants_F rfl rfl rfl lk (by first | rfl | assumption)) rfl ?_
          refine AD.two (i := 15) (j := 17) (by kernel_rfl) ?_ ?_
          · skip
            refine AStep.skip rfl (wants_F rfl rfl rfl lk (by first | rfl | assumption)) rfl ?_
            refine AD.one (i := 17) (by kernel_rfl) ?_
            refine AStep.skip rfl (wants_F rfl rfl rfl lk (by first | rfl | assumption)) rfl ?_
            refine AD.takeSkip (i := 18) rfl (by kernel_rfl) (by kernel_rfl) (by kernel_rfl) (by repeat (first | exact NP.body | apply NP.then | apply NP.cut | apply NP.inBlock | apply NP.round)) (wants_F rfl rfl rfl lk (by first | rfl | assumption)) rfl ?_
            refine AD.takeSkip (i := 19) rfl (by kernel_rfl) (by kernel_rfl) (by kernel_rfl) (by repeat (first | exact NP.body | apply NP.then | apply NP.cut | apply NP.inBlock | apply NP.round)) (wants_F rfl rfl rfl lk (by first | rfl | assumption)) rfl ?_
            refine AD.take (i := 20) rfl (by kernel_rfl) (by kernel_rfl) (by kernel_rfl) (by repeat (first | exact NP.body | apply NP.then | apply NP.cut | apply NP.inBlock | apply NP.round)) (wants_plain rfl) rfl (still_pickF rfl ot (by first | rfl | assumption) opd_const) (by exact trivial) (by intro h; cases h) ?_
            refine AD.take (i := 21) rfl (by kernel_rfl) (by kernel_rfl) (by kernel_rfl) (by repeat (first | exact NP.body | apply NP.then | apply NP.cut | apply NP.inBlock | apply NP.round)) (wants_plain rfl) rfl (still_as rfl ot) (by exact trivial) (by intro h; cases h) ?_
            refine AD.wk (y := ⟨53, [(3, _)], [⟨b1, 30, 3, [_, _, _]⟩]⟩) (Wk.as_ rfl rfl ⟨lk, trivial⟩) rfl ?_
            refine AD.done (by kernel_rfl) ?_
            refine CD.seq ?_
            refine CD.seq ?_
            refine CD.region ?_
            refine OD.still (wants_plain rfl) rfl (still_mv rfl ot) ?_
            refine OD.still (wants_plain rfl) rfl (still_un rfl ot un_not) ?_
            refine OD.wk (Wk.as_ (n := 53) (l' := [(52, _)]) (S' := [⟨b1, 30, 3, [_, _, _]⟩]) rfl rfl ⟨lk, trivial⟩) ?_
            refine OD.nil ?_
            refine CD.condT ot (by first | rfl | assumption) ?_
            refine CD.seq ?_
            refine CD.region ?_
            refine OD.still (wants_plain rfl) rfl (still_as rfl opd_const) ?_
            refine OD.wk (Wk.as_ (n := 53) (l' := [(2, _)]) (S' := [⟨b1, 30, 3, [_, _, _]⟩]) rfl rfl ⟨lk, trivial⟩) ?_
            refine OD.nil ?_
            refine CD.ret ?_
            refine ⟨.inr rfl, _, [], List.nil_sublist _, ret_one Tryd.results18 (res_tmp (Nat.le_of_ble_eq_true rfl) lk), ?_⟩
            refine ⟨vi ?_, rfl⟩
            try simp only [str_eq0] at *
            simp only [checkT, okWord]
            try simp_all
            try omega
          · skip
            refine AStep.skip rfl (wants_F rfl rfl rfl lk (by first | rfl | assumption)) rfl ?_
            refine AD.takeSkip (i := 18) rfl (by kernel_rfl) (by kernel_rfl) (by kernel_rfl) (by repeat (first | exact NP.body | apply NP.then | apply NP.cut | apply NP.inBlock | apply NP.round)) (wants_F rfl rfl rfl lk (by first | rfl | assumption)) rfl ?_
            refine AD.one (i := 15) (by kernel_rfl) ?_
            refine AStep.skip rfl (wants_F rfl rfl rfl lk (by first | rfl | assumption)) rfl ?_
            refine AD.takeSkip (i := 19) rfl (by kernel_rfl) (by kernel_rfl) (by kernel_rfl) (by repeat (first | exact NP.body | apply NP.then | apply NP.cut | apply NP.inBlock | apply NP.round)) (wants_F rfl rfl rfl lk (by first | rfl | assumption)) rfl ?_
            refine AD.take (i := 20) rfl (by kernel_rfl) (by kernel_rfl) (by kernel_rfl) (by repeat (first | exact NP.body | apply NP.then | apply NP.cut | apply NP.inBlock | apply NP.round)) (wants_plain rfl) rfl (still_pickF rfl ot (by first | rfl | assumption) opd_const) (by exact trivial) (by intro h; cases h) ?_
            refine AD.take (i := 21) rfl (by kernel_rfl) (by kernel_rfl) (by kernel_rfl) (by repeat (first | exact NP.body | apply NP.then | apply NP.cut | apply NP.inBlock | apply NP.round)) (wants_plain rfl) rfl (still_as rfl ot) (by exact trivial) (by intro h; cases h) ?_
            refine AD.wk (y := ⟨53, [(3, _)], [⟨b1, 30, 3, [_, _, _]⟩]⟩) (Wk.as_ rfl rfl ⟨lk, trivial⟩) rfl ?_
            refine AD.done (by kernel_rfl) ?_
            refine CD.seq ?_
            refine CD.seq ?_
            refine CD.region ?_
            refine OD.still (wants_plain rfl) rfl (still_mv rfl ot) ?_
            refine OD.still (wants_plain rfl) rfl (still_un rfl ot un_not) ?_
            refine OD.wk (Wk.as_ (n := 53) (l' := [(52, _)]) (S' := [⟨b1, 30, 3, [_, _, _]⟩]) rfl rfl ⟨lk, trivial⟩) ?_
            refine OD.nil ?_
            refine CD.condT ot (by first | rfl | assumption) ?_
            refine CD.seq ?_
            refine CD.region ?_
            refine OD.still (wants_plain rfl) rfl (still_as rfl opd_const) ?_
            refine OD.wk (Wk.as_ (n := 53) (l' := [(2, _)]) (S' := [⟨b1, 30, 3, [_, _, _]⟩]) rfl rfl ⟨lk, trivial⟩) ?_
            refine OD.nil ?_
            refine CD.ret ?_
            refine ⟨.inr rfl, _, [], List.nil_sublist _, ret_one Tryd.results18 (res_tmp (Nat.le_of_ble_eq_true rfl) lk), ?_⟩
            refine ⟨vi ?_, rfl⟩
            try simp only [str_eq0] at *
            simp only [checkT, okWord]
            try simp_all
            try omega
        · skip
          refine AStep.skip rfl (wants_F rfl rfl rfl lk (by first | rfl | assumption)) rfl ?_
          refine AD.takeSkip (i := 18) rfl (by kernel_rfl) (by kernel_rfl) (by kernel_rfl) (by repeat (first | exact NP.body | apply NP.then | apply NP.cut | apply NP.inBlock | apply NP.round)) (wants_F rfl rfl rfl lk (by first | rfl | assumption)) rfl ?_
          refine AD.one (i := 14) (by kernel_rfl) ?_
          refine AStep.skip rfl (wants_F rfl rfl rfl lk (by first | rfl | assumption)) rfl ?_
          refine AD.one (i := 15) (by kernel_rfl) ?_
          refine AStep.skip rfl (wants_F rfl rfl rfl lk (by first | rfl | assumption)) rfl ?_
          refine AD.takeSkip (i := 19) rfl (by kernel_rfl) (by kernel_rfl) (by kernel_rfl) (by repeat (first | exact NP.body | apply NP.then | apply NP.cut | apply NP.inBlock | apply NP.round)) (wants_F rfl rfl rfl lk (by first | rfl | assumption)) rfl ?_
          refine AD.take (i := 20) rfl (by kernel_rfl) (by kernel_rfl) (by kernel_rfl) (by repeat (first | exact NP.body | apply NP.then | apply NP.cut | apply NP.inBlock | apply NP.round)) (wants_plain rfl) rfl (still_pickF rfl ot (by first | rfl | assumption) opd_const) (by exact trivial) (by intro h; cases h) ?_
          refine AD.take (i := 21) rfl (by kernel_rfl) (by kernel_rfl) (by kernel_rfl) (by repeat (first | exact NP.body | apply NP.then | apply NP.cut | apply NP.inBlock | apply NP.round)) (wants_plain rfl) rfl (still_as rfl ot) (by exact trivial) (by intro h; cases h) ?_
          refine AD.wk (y := ⟨53, [(3, _)], [⟨b1, 30, 3, [_, _, _]⟩]⟩) (Wk.as_ rfl rfl ⟨lk, trivial⟩) rfl ?_
          refine AD.done (by kernel_rfl) ?_
          refine CD.seq ?_
          refine CD.seq ?_
          refine CD.region ?_
          refine OD.still (wants_plain rfl) rfl (still_mv rfl ot) ?_
          refine OD.still (wants_plain rfl) rfl (still_un rfl ot un_not) ?_
          refine OD.wk (Wk.as_ (n := 53) (l' := [(52, _)]) (S' := [⟨b1, 30, 3, [_, _, _]⟩]) rfl rfl ⟨lk, trivial⟩) ?_
          refine OD.nil ?_
          refine CD.condT ot (by first | rfl | assumption) ?_
          refine CD.seq ?_
          refine CD.region ?_
          refine OD.still (wants_plain rfl) rfl (still_as rfl opd_const) ?_
          refine OD.wk (Wk.as_ (n := 53) (l' := [(2, _)]) (S' := [⟨b1, 30, 3, [_, _, _]⟩]) rfl rfl ⟨lk, trivial⟩) ?_
          refine OD.nil ?_
          refine CD.ret ?_
          refine ⟨.inr rfl, _, [], List.nil_sublist _, ret_one Tryd.results18 (res_tmp (Nat.le_of_ble_eq_true rfl) lk), ?_⟩
          refine ⟨vi ?_, rfl⟩
          try simp only [str_eq0] at *
          simp only [checkT, okWord]
          try simp_all
          try omega
    · have hg12' := hg12; (try simp only [decide_eq_true_eq, decide_eq_false_iff_not, beq_iff_eq, bne_iff_ne, Bool.not_eq_true', Bool.not_eq_false', Bool.not_eq_true, Bool.not_eq_false, beq_eq_false_iff_ne, ne_eq, bne_eq_false_iff_eq, Bool.and_eq_true, Bool.or_eq_true, Bool.not_not, Bool.and_eq_false_iff, Bool.or_eq_false_iff, Int.not_lt, Int.not_le] at hg12')
      refine AD0.takeSkip (i := 2) rfl (by kernel_rfl) (by kernel_rfl) (by kernel_rfl) (by repeat (first | exact NP.body | apply NP.then | apply NP.cut | apply NP.inBlock | apply NP.round)) (wants_F rfl rfl rfl lk (by first | rfl | assumption)) rfl ?_
      refine AD0.takeSkip (i := 3) rfl (by kernel_rfl) (by kernel_rfl) (by kernel_rfl) (by repeat (first | exact NP.body | apply NP.then | apply NP.cut | apply NP.inBlock | apply NP.round)) (wants_F rfl rfl rfl lk (by first | rfl | assumption)) rfl ?_
      refine AD0.takeSkip (i := 4) rfl (by kernel_rfl) (by kernel_rfl) (by kernel_rfl) (by repeat (first | exact NP.body | apply NP.then | apply NP.cut | apply NP.inBlock | apply NP.round)) (wants_F rfl rfl rfl lk (by first | rfl | assumption)) rfl ?_
      refine AD0.take (i := 5) rfl (by kernel_rfl) (by kernel_rfl) (by kernel_rfl) (by repeat (first | exact NP.body | apply NP.then | apply NP.cut | apply NP.inBlock | apply NP.round)) (wants_plain rfl) rfl (still_pickF rfl ot (by first | rfl | assumption) opd_const) (by exact trivial) ?_
      refine AD0.take (i := 6) rfl (by kernel_rfl) (by kernel_rfl) (by kernel_rfl) (by repeat (first | exact NP.body | apply NP.then | apply NP.cut | apply NP.inBlock | apply NP.round)) (wants_plain rfl) rfl (still_mv rfl ot) (by exact trivial) ?_
      refine AD0.takeSkip (i := 7) rfl (by kernel_rfl) (by kernel_rfl) (by kernel_rfl) (by repeat (first | exact NP.body | apply NP.then | apply NP.cut | apply NP.inBlock | apply NP.round)) (wants_F rfl rfl rfl lk (by first | rfl | assumption)) rfl ?_
      refine AD0.takeSkip (i := 8) rfl (by kernel_rfl) (by kernel_rfl) (by kernel_rfl) (by repeat (first | exact NP.body | apply NP.then | apply NP.cut | apply NP.inBlock | apply NP.round)) (wants_F rfl rfl rfl lk (by first | rfl | assumption)) rfl ?_
      refine AD0.takeSkip (i := 9) rfl (by kernel_rfl) (by kernel_rfl) (by kernel_rfl) (by repeat (first | exact NP.body | apply NP.then | apply NP.cut | apply NP.inBlock | apply NP.round)) (wants_F rfl rfl rfl lk (by first | rfl | assumption)) rfl ?_
      refine AD0.later rfl ?_
      refine AD.one (i := 10) (by kernel_rfl) ?_
      refine AStep.skip rfl (wants_F rfl rfl rfl lk (by first | rfl | assumption)) rfl ?_
      refine AD.take (i := 11) rfl (by kernel_rfl) (by kernel_rfl) (by kernel_rfl) (by repeat (first | exact NP.body | apply NP.then | apply NP.cut | apply NP.inBlock | apply NP.round)) (wants_plain rfl) rfl (still_pickF rfl ot (by first | rfl | assumption) opd_const) (by exact trivial) (by intro h; cases h) ?_
      refine AD.take (i := 12) rfl (by kernel_rfl) (by kernel_rfl) (by kernel_rfl) (by repeat (first | exact NP.body | apply NP.then | apply NP.cut | apply NP.inBlock | apply NP.round)) (wants_plain rfl) rfl (still_mv rfl ot) (by exact trivial) (by intro h; cases h) ?_
      refine AD.takeSkip (i := 13) rfl (by kernel_rfl) (by kernel_rfl) (by kernel_rfl) (by repeat (first | exact NP.body | apply NP.then | apply NP.cut | apply NP.inBlock | apply NP.round)) (wants_F rfl rfl rfl lk (by first | rfl | assumption)) rfl ?_
      refine AD.takeSkip (i := 16) rfl (by kernel_rfl) (by kernel_rfl) (by kernel_rfl) (by repeat (first | exact NP.body | apply NP.then | apply NP.cut | apply NP.inBlock | apply NP.round)) (wants_F rfl rfl rfl lk (by first | rfl | assumption)) rfl ?_
      refine AD.two (i := 14) (j := 17) (by kernel_rfl) ?_ ?_
      · skip
        refine AStep.skip rfl (wants_F rfl rfl rfl lk (by first | rfl | assumption)) rfl ?_
        refine AD.two (i := 15) (j := 17) (by kernel_rfl) ?_ ?_
        · skip
          refine AStep.skip rfl (wants_F rfl rfl rfl lk (by first | rfl | assumption)) rfl ?_
          refine AD.one (i := 17) (by kernel_rfl) ?_
          refine AStep.skip rfl (wants_F rfl rfl rfl lk (by first | rfl | assumption)) rfl ?_
          refine AD.takeSkip (i := 18) rfl (by kernel_rfl) (by kernel_rfl) (by kernel_rfl) (by repeat (first | exact NP.body | apply NP.then | apply NP.cut | apply NP.inBlock | apply NP.round)) (wants_F rfl rfl rfl lk (by first | rfl | assumption)) rfl ?_
          refine AD.takeSkip (i := 19) rfl (by kernel_rfl) (by kernel_rfl) (by kernel_rfl) (by repeat (first | exact NP.body | apply NP.then | apply NP.cut | apply NP.inBlock | apply NP.round)) (wants_F rfl rfl rfl lk (by first | rfl | assumption)) rfl ?_
          refine AD.take (i := 20) rfl (by kernel_rfl) (by kernel_rfl) (by kernel_rfl) (by repeat (first | exact NP.body | apply NP.then | apply NP.cut | apply NP.inBlock | apply NP.round)) (wants_plain rfl) rfl (still_pickF rfl ot (by first | rfl | assumption) opd_const) (by exact trivial) (by intro h; cases h) ?_
          refine AD.take (i := 21) rfl (by kernel_rfl) (by kernel_rfl) (by kernel_rfl) (by repeat (first | exact NP.body | apply NP.then | apply NP.cut | apply NP.inBlock | apply NP.round)) (wants_plain rfl) rfl (still_as rfl ot) (by exact trivial) (by intro h; cases h) ?_
          refine AD.wk (y := ⟨53, [(3, _)], [⟨b1, 30, 3, [_, _, _]⟩]⟩) (Wk.as_ rfl rfl ⟨lk, trivial⟩) rfl ?_
          refine AD.done (by kernel_rfl) ?_
          refine CD.seq ?_
          refine CD.seq ?_
          refine CD.region ?_
          refine OD.still (wants_plain rfl) rfl (still_mv rfl ot) ?_
          refine OD.still (wants_plain rfl) rfl (still_un rfl ot un_not) ?_
          refine OD.wk (Wk.as_ (n := 53) (l' := [(52, _)]) (S' := [⟨b1, 30, 3, [_, _, _]⟩]) rfl rfl ⟨lk, trivial⟩) ?_
          refine OD.nil ?_
          refine CD.condT ot (by first | rfl | assumption) ?_
          refine CD.seq ?_
          refine CD.region ?_
          refine OD.still (wants_plain rfl) rfl (still_as rfl opd_const) ?_
          refine OD.wk (Wk.as_ (n := 53) (l' := [(2, _)]) (S' := [⟨b1, 30, 3, [_, _, _]⟩]) rfl rfl ⟨lk, trivial⟩) ?_
          refine OD.nil ?_
          refine CD.ret ?_
          refine ⟨.inr rfl, _, [], List.nil_sublist _, ret_one Tryd.results18 (res_tmp (Nat.le_of_ble_eq_true rfl) lk), ?_⟩
          refine ⟨vi ?_, rfl⟩
          try simp only [str_eq0] at *
          simp only [checkT, okWord]
          try simp_all
          try omega
        · skip
          refine AStep.skip rfl (wants_F rfl rfl rfl lk (by first | rfl | assumption)) rfl ?_
          refine AD.takeSkip (i := 18) rfl (by kernel_rfl) (by kernel_rfl) (by kernel_rfl) (by repeat (first | exact NP.body | apply NP.then | apply NP.cut | apply NP.inBlock | apply NP.round)) (wants_F rfl rfl rfl lk (by first | rfl | assumption)) rfl ?_
          refine AD.one (i := 15) (by kernel_rfl) ?_
          refine AStep.skip rfl (wants_F rfl rfl rfl lk (by first | rfl | assumption)) rfl ?_
          refine AD.takeSkip (i := 19) rfl (by kernel_rfl) (by kernel_rfl) (by kernel_rfl) (by repeat (first | exact NP.body | apply NP.then | apply NP.cut | apply NP.inBlock | apply NP.round)) (wants_F rfl rfl rfl lk (by first | rfl | assumption)) rfl ?_
          refine AD.take (i := 20) rfl (by kernel_rfl) (by kernel_rfl) (by kernel_rfl) (by repeat (first | exact NP.body | apply NP.then | apply NP.cut | apply NP.inBlock | apply NP.round)) (wants_plain rfl) rfl (still_pickF rfl ot (by first | rfl | assumption) opd_const) (by exact trivial) (by intro h; cases h) ?_
          refine AD.take (i := 21) rfl (by kernel_rfl) (by kernel_rfl) (by kernel_rfl) (by repeat (first | exact NP.body | apply NP.then | apply NP.cut | apply NP.inBlock | apply NP.round)) (wants_plain rfl) rfl (still_as rfl ot) (by exact trivial) (by intro h; cases h) ?_
          refine AD.wk (y := ⟨53, [(3, _)], [⟨b1, 30, 3, [_, _, _]⟩]⟩) (Wk.as_ rfl rfl ⟨lk, trivial⟩) rfl ?_
          refine AD.done (by kernel_rfl) ?_
          refine CD.seq ?_
          refine CD.seq ?_
          refine CD.region ?_
          refine OD.still (wants_plain rfl) rfl (still_mv rfl ot) ?_
          refine OD.still (wants_plain rfl) rfl (still_un rfl ot un_not) ?_
          refine OD.wk (Wk.as_ (n := 53) (l' := [(52, _)]) (S' := [⟨b1, 30, 3, [_, _, _]⟩]) rfl rfl ⟨lk, trivial⟩) ?_
          refine OD.nil ?_
          refine CD.condT ot (by first | rfl | assumption) ?_
          refine CD.seq ?_
          refine CD.region ?_
          refine OD.still (wants_plain rfl) rfl (still_as rfl opd_const) ?_
          refine OD.wk (Wk.as_ (n := 53) (l' := [(2, _)]) (S' := [⟨b1, 30, 3, [_, _, _]⟩]) rfl rfl ⟨lk, trivial⟩) ?_
          refine OD.nil ?_
          refine CD.ret ?_
          refine ⟨.inr rfl, _, [], List.nil_sublist _, ret_one Tryd.results18 (res_tmp (Nat.le_of_ble_eq_true rfl) lk), ?_⟩
          refine ⟨vi ?_, rfl⟩
          try simp only [str_eq0] at *
          simp only [checkT, okWord]
          try simp_all
          try omega
      · skip
        refine AStep.skip rfl (wants_F rfl rfl rfl lk (by first | rfl | assumption)) rfl ?_
        refine AD.takeSkip (i := 18) rfl (by kernel_rfl) (by kernel_rfl) (by kernel_rfl) (by repeat (first | exact NP.body | apply NP.then | apply NP.cut | apply NP.inBlock | apply NP.round)) (wants_F rfl rfl rfl lk (by first | rfl | assumption)) rfl ?_
        refine AD.one (i := 14) (by kernel_rfl) ?_
        refine AStep.skip rfl (wants_F rfl rfl rfl lk (by first | rfl | assumption)) rfl ?_
        refine AD.one (i := 15) (by kernel_rfl) ?_
        refine AStep.skip rfl (wants_F rfl rfl rfl lk (by first | rfl | assumption)) rfl ?_
        refine AD.takeSkip (i := 19) rfl (by kernel_rfl) (by kernel_rfl) (by kernel_rfl) (by repeat (first | exact NP.body | apply NP.then | apply NP.cut | apply NP.inBlock | apply NP.round)) (wants_F rfl rfl rfl lk (by first | rfl | assumption)) rfl ?_
        refine AD.take (i := 20) rfl (by kernel_rfl) (by kernel_rfl) (by kernel_rfl) (by repeat (first | exact NP.body | apply NP.then | apply NP.cut | apply NP.inBlock | apply NP.round)) (wants_plain rfl) rfl (still_pickF rfl ot (by first | rfl | assumption) opd_const) (by exact trivial) (by intro h; cases h) ?_
        refine AD.take (i := 21) rfl (by kernel_rfl) (by kernel_rfl) (by kernel_rfl) (by repeat (first | exact NP.body | apply NP.then | apply NP.cut | apply NP.inBlock | apply NP.round)) (wants_plain rfl) rfl (still_as rfl ot) (by exact trivial) (by intro h; cases h) ?_
        refine AD.wk (y := ⟨53, [(3, _)], [⟨b1, 30, 3, [_, _, _]⟩]⟩) (Wk.as_ rfl rfl ⟨lk, trivial⟩) rfl ?_
        refine AD.done (by kernel_rfl) ?_
        refine CD.seq ?_
        refine CD.seq ?_
        refine CD.region ?_
        refine OD.still (wants_plain rfl) rfl (still_mv rfl ot) ?_
        refine OD.still (wants_plain rfl) rfl (still_un rfl ot un_not) ?_
        refine OD.wk (Wk.as_ (n := 53) (l' := [(52, _)]) (S' := [⟨b1, 30, 3, [_, _, _]⟩]) rfl rfl ⟨lk, trivial⟩) ?_
        refine OD.nil ?_
        refine CD.condT ot (by first | rfl | assumption) ?_
        refine CD.seq ?_
        refine CD.region ?_
        refine OD.still (wants_plain rfl) rfl (still_as rfl opd_const) ?_
        refine OD.wk (Wk.as_ (n := 53) (l' := [(2, _)]) (S' := [⟨b1, 30, 3, [_, _, _]⟩]) rfl rfl ⟨lk, trivial⟩) ?_
        refine OD.nil ?_
        refine CD.ret ?_
        refine ⟨.inr rfl, _, [], List.nil_sublist _, ret_one Tryd.results18 (res_tmp (Nat.le_of_ble_eq_true rfl) lk), ?_⟩
        refine ⟨vi ?_, rfl⟩
        try simp only [str_eq0] at *
        simp only [checkT, okWord]
        try simp_all
        try omega
  · have hc0' := hc0
    (try simp only [decide_eq_true_eq, decide_eq_false_iff_not, beq_iff_eq, bne_iff_ne, Bool.not_eq_true', Bool.not_eq_false', Bool.not_eq_true, Bool.not_eq_false, beq_eq_false_iff_ne, ne_eq, bne_eq_false_iff_eq, Bool.and_eq_true, Bool.or_eq_true, Bool.not_not, Bool.and_eq_false_iff, Bool.or_eq_false_iff, Int.not_lt, Int.not_le] at hc0')
    refine CD.seq ?_
    refine CD.region ?_
    refine OD.still (wants_plain rfl) rfl (still_bin rfl ot opd_const bin_eql) ?_
    refine OD.still (wants_plain rfl) rfl (still_as rfl ot) ?_
    refine OD.wk (Wk.as_ (n := 53) (l' := [(1, _), (3, _), (8, _), (32, _)]) (S' := [⟨b1, 30, 3, [_, _, _]⟩]) rfl rfl ⟨lk, lk, lk, lk, trivial⟩) ?_
    refine OD.nil ?_
    refine CD.cond ot (fun hc1 => ?_) (fun hc1 => ?_)
    · have hc1' := hc1
      (try simp only [decide_eq_true_eq, decide_eq_false_iff_not, beq_iff_eq, bne_iff_ne, Bool.not_eq_true', Bool.not_eq_false', Bool.not_eq_true, Bool.not_eq_false, beq_eq_false_iff_ne, ne_eq, bne_eq_false_iff_eq, Bool.and_eq_true, Bool.or_eq_true, Bool.not_not, Bool.and_eq_false_iff, Bool.or_eq_false_iff, Int.not_lt, Int.not_le] at hc1')
      refine CD.seq ?_
      refine CD.seq ?_
      refine CD.region ?_
      refine OD.still (wants_plain rfl) rfl (still_r1 (mk := fun y => Op.fieldAddr 30 y 2) rfl ot (by first | exact fa_ptr (off := 2) Tryd.runUnderlying30 rfl Tryd.sizeOf3 rfl | exact fa_iptr (off := 2) Tryd.runUnderlying30 rfl Tryd.sizeOf3 rfl)) ?_
      refine OD.still (wants_plain rfl) rfl (still_r1 (mk := Op.load 3) rfl ot (by first | exact ld_blk (k := 0) rfl rfl Tryd.isAgg3 rfl | exact ld_i Tryd.isAgg3 rfl)) ?_
      refine OD.still (wants_plain rfl) rfl (still_bin rfl ot opd_const bin_lss) ?_
      refine OD.wk (Wk.as_ (n := 53) (l' := [(1, _), (36, _)]) (S' := [⟨b1, 30, 3, [_, _, _]⟩]) rfl rfl ⟨lk, lk, trivial⟩) ?_
      refine OD.nil ?_
      refine CD.cond ot (fun hc2 => ?_) (fun hc2 => ?_)
      · have hc2' := hc2
        (try simp only [decide_eq_true_eq, decide_eq_false_iff_not, beq_iff_eq, bne_iff_ne, Bool.not_eq_true', Bool.not_eq_false', Bool.not_eq_true, Bool.not_eq_false, beq_eq_false_iff_ne, ne_eq, bne_eq_false_iff_eq, Bool.and_eq_true, Bool.or_eq_true, Bool.not_not, Bool.and_eq_false_iff, Bool.or_eq_false_iff, Int.not_lt, Int.not_le] at hc2')
        refine CD.seq ?_
        refine CD.region ?_
        refine OD.still (wants_plain rfl) rfl (still_as rfl opd_const) ?_
        refine OD.wk (Wk.as_ (n := 53) (l' := [(2, _)]) (S' := [⟨b1, 30, 3, [_, _, _]⟩]) rfl rfl ⟨lk, trivial⟩) ?_
        refine OD.nil ?_
        refine CD.ret ?_
        refine ⟨.inr rfl, _, [], List.nil_sublist _, ret_one Tryd.results18 (res_tmp (Nat.le_of_ble_eq_true rfl) lk), ?_⟩
        refine ⟨vi ?_, rfl⟩
        try simp only [str_eq0] at *
        simp only [checkT, okWord]
        try simp_all
        try omega
      · have hc2' := hc2
        (try simp only [decide_eq_true_eq, decide_eq_false_iff_not, beq_iff_eq, bne_iff_ne, Bool.not_eq_true', Bool.not_eq_false', Bool.not_eq_true, Bool.not_eq_false, beq_eq_false_iff_ne, ne_eq, bne_eq_false_iff_eq, Bool.and_eq_true, Bool.or_eq_true, Bool.not_not, Bool.and_eq_false_iff, Bool.or_eq_false_iff, Int.not_lt, Int.not_le] at hc2')
        refine CD.skip ?_
        refine CD.region ?_
        refine OD.still (wants_plain rfl) rfl (still_r1 (mk := fun y => Op.fieldAddr 30 y 1) rfl ot (by first | exact fa_ptr (off := 1) Tryd.runUnderlying30 rfl Tryd.sizeOf9 rfl | exact fa_iptr (off := 1) Tryd.runUnderlying30 rfl Tryd.sizeOf9 rfl)) ?_
        refine OD.still (wants_plain rfl) rfl (still_r1 (mk := Op.load 9) rfl ot (by first | exact ld_blk (k := 0) rfl rfl Tryd.isAgg9 rfl | exact ld_i Tryd.isAgg9 rfl)) ?_
        refine OD.still (wants_plain rfl) rfl (still_bin rfl ot opd_const bin_seql) ?_
        refine OD.still (wants_plain rfl) rfl (still_as rfl ot) ?_
        refine OD.wk (Wk.as_ (n := 53) (l' := [(3, _)]) (S' := [⟨b1, 30, 3, [_, _, _]⟩]) rfl rfl ⟨lk, trivial⟩) ?_
        refine OD.nil ?_
        refine CD.seq ?_
        refine CD.seq ?_
        refine CD.region ?_
        refine OD.still (wants_plain rfl) rfl (still_mv rfl ot) ?_
        refine OD.still (wants_plain rfl) rfl (still_un rfl ot un_not) ?_
        refine OD.wk (Wk.as_ (n := 53) (l' := [(52, _)]) (S' := [⟨b1, 30, 3, [_, _, _]⟩]) rfl rfl ⟨lk, trivial⟩) ?_
        refine OD.nil ?_
        refine CD.cond ot (fun hc5 => ?_) (fun hc5 => ?_)
        · have hc5' := hc5
          (try simp only [decide_eq_true_eq, decide_eq_false_iff_not, beq_iff_eq, bne_iff_ne, Bool.not_eq_true', Bool.not_eq_false', Bool.not_eq_true, Bool.not_eq_false, beq_eq_false_iff_ne, ne_eq, bne_eq_false_iff_eq, Bool.and_eq_true, Bool.or_eq_true, Bool.not_not, Bool.and_eq_false_iff, Bool.or_eq_false_iff, Int.not_lt, Int.not_le] at hc5')
          refine CD.seq ?_
          refine CD.region ?_
          refine OD.still (wants_plain rfl) rfl (still_as rfl opd_const) ?_
          refine OD.wk (Wk.as_ (n := 53) (l' := [(2, _)]) (S' := [⟨b1, 30, 3, [_, _, _]⟩]) rfl rfl ⟨lk, trivial⟩) ?_
          refine OD.nil ?_
          refine CD.ret ?_
          refine ⟨.inr rfl, _, [], List.nil_sublist _, ret_one Tryd.results18 (res_tmp (Nat.le_of_ble_eq_true rfl) lk), ?_⟩
          refine ⟨vi ?_, rfl⟩
          try simp only [str_eq0] at *
          simp only [checkT, okWord]
          try simp_all
          try omega
        · have hc5' := hc5
          (try simp only [decide_eq_true_eq, decide_eq_false_iff_not, beq_iff_eq, bne_iff_ne, Bool.not_eq_true', Bool.not_eq_false', Bool.not_eq_true, Bool.not_eq_false, beq_eq_false_iff_ne, ne_eq, bne_eq_false_iff_eq, Bool.and_eq_true, Bool.or_eq_true, Bool.not_not, Bool.and_eq_false_iff, Bool.or_eq_false_iff, Int.not_lt, Int.not_le] at hc5')
          refine CD.skip ?_
          refine CD.seq ?_
          refine CD.region ?_
          refine OD.still (wants_plain rfl) rfl (still_as rfl opd_const) ?_
          refine OD.wk (Wk.as_ (n := 53) (l' := [(2, _)]) (S' := [⟨b1, 30, 3, [_, _, _]⟩]) rfl rfl ⟨lk, trivial⟩) ?_
          refine OD.nil ?_
          refine CD.ret ?_
          refine ⟨.inr rfl, _, [], List.nil_sublist _, ret_one Tryd.results18 (res_tmp (Nat.le_of_ble_eq_true rfl) lk), ?_⟩
          refine ⟨vi ?_, rfl⟩
          try simp only [str_eq0] at *
          simp only [checkT, okWord]
          try simp_all
          try omega
    · have hc1' := hc1
      (try simp only [decide_eq_true_eq, decide_eq_false_iff_not, beq_iff_eq, bne_iff_ne, Bool.not_eq_true', Bool.not_eq_false', Bool.not_eq_true, Bool.not_eq_false, beq_eq_false_iff_ne, ne_eq, bne_eq_false_iff_eq, Bool.and_eq_true, Bool.or_eq_true, Bool.not_not, Bool.and_eq_false_iff, Bool.or_eq_false_iff, Int.not_lt, Int.not_le] at hc1')
      refine CD.seq ?_
      refine CD.region ?_
      refine OD.still (wants_plain rfl) rfl (still_bin rfl ot opd_const bin_eql) ?_
      refine OD.still (wants_plain rfl) rfl (still_as rfl ot) ?_
      refine OD.wk (Wk.as_ (n := 53) (l' := [(1, _), (3, _), (8, _), (40, _)]) (S' := [⟨b1, 30, 3, [_, _, _]⟩]) rfl rfl ⟨lk, lk, lk, lk, trivial⟩) ?_
      refine OD.nil ?_
      refine CD.cond ot (fun hc3 => ?_) (fun hc3 => ?_)
      · have hc3' := hc3
        (try simp only [decide_eq_true_eq, decide_eq_false_iff_not, beq_iff_eq, bne_iff_ne, Bool.not_eq_true', Bool.not_eq_false', Bool.not_eq_true, Bool.not_eq_false, beq_eq_false_iff_ne, ne_eq, bne_eq_false_iff_eq, Bool.and_eq_true, Bool.or_eq_true, Bool.not_not, Bool.and_eq_false_iff, Bool.or_eq_false_iff, Int.not_lt, Int.not_le] at hc3')
        refine CD.skip ?_
        refine CD.seq ?_
        refine CD.seq ?_
        refine CD.region ?_
        refine OD.still (wants_plain rfl) rfl (still_mv rfl ot) ?_
        refine OD.still (wants_plain rfl) rfl (still_un rfl ot un_not) ?_
        refine OD.wk (Wk.as_ (n := 53) (l' := [(52, _)]) (S' := [⟨b1, 30, 3, [_, _, _]⟩]) rfl rfl ⟨lk, trivial⟩) ?_
        refine OD.nil ?_
        refine CD.cond ot (fun hc5 => ?_) (fun hc5 => ?_)
        · have hc5' := hc5
          (try simp only [decide_eq_true_eq, decide_eq_false_iff_not, beq_iff_eq, bne_iff_ne, Bool.not_eq_true', Bool.not_eq_false', Bool.not_eq_true, Bool.not_eq_false, beq_eq_false_iff_ne, ne_eq, bne_eq_false_iff_eq, Bool.and_eq_true, Bool.or_eq_true, Bool.not_not, Bool.and_eq_false_iff, Bool.or_eq_false_iff, Int.not_lt, Int.not_le] at hc5')
          refine CD.seq ?_
          refine CD.region ?_
          refine OD.still (wants_plain rfl) rfl (still_as rfl opd_const) ?_
          refine OD.wk (Wk.as_ (n := 53) (l' := [(2, _)]) (S' := [⟨b1, 30, 3, [_, _, _]⟩]) rfl rfl ⟨lk, trivial⟩) ?_
          refine OD.nil ?_
          refine CD.ret ?_
          refine ⟨.inr rfl, _, [], List.nil_sublist _, ret_one Tryd.results18 (res_tmp (Nat.le_of_ble_eq_true rfl) lk), ?_⟩
          refine ⟨vi ?_, rfl⟩
          try simp only [str_eq0] at *
          simp only [checkT, okWord]
          try simp_all
          try omega
        · have hc5' := hc5
          (try simp only [decide_eq_true_eq, decide_eq_false_iff_not, beq_iff_eq, bne_iff_ne, Bool.not_eq_true', Bool.not_eq_false', Bool.not_eq_true, Bool.not_eq_false, beq_eq_false_iff_ne, ne_eq, bne_eq_false_iff_eq, Bool.and_eq_true, Bool.or_eq_true, Bool.not_not, Bool.and_eq_false_iff, Bool.or_eq_false_iff, Int.not_lt, Int.not_le] at hc5')
          refine CD.skip ?_
          refine CD.seq ?_
          refine CD.region ?_
          refine OD.still (wants_plain rfl) rfl (still_as rfl opd_const) ?_
          refine OD.wk (Wk.as_ (n := 53) (l' := [(2, _)]) (S' := [⟨b1, 30, 3, [_, _, _]⟩]) rfl rfl ⟨lk, trivial⟩) ?_
          refine OD.nil ?_
          refine CD.ret ?_
          refine ⟨.inr rfl, _, [], List.nil_sublist _, ret_one Tryd.results18 (res_tmp (Nat.le_of_ble_eq_true rfl) lk), ?_⟩
          refine ⟨vi ?_, rfl⟩
          try simp only [str_eq0] at *
          simp only [checkT, okWord]
          try simp_all
          try omega
      · have hc3' := hc3
        (try simp only [decide_eq_true_eq, decide_eq_false_iff_not, beq_iff_eq, bne_iff_ne, Bool.not_eq_true', Bool.not_eq_false', Bool.not_eq_true, Bool.not_eq_false, beq_eq_false_iff_ne, ne_eq, bne_eq_false_iff_eq, Bool.and_eq_true, Bool.or_eq_true, Bool.not_not, Bool.and_eq_false_iff, Bool.or_eq_false_iff, Int.not_lt, Int.not_le] at hc3')
        refine CD.seq ?_
        refine CD.region ?_
        refine OD.still (wants_plain rfl) rfl (still_bin rfl ot opd_const bin_eql) ?_
        refine OD.still (wants_plain rfl) rfl (still_as rfl ot) ?_
        refine OD.wk (Wk.as_ (n := 53) (l' := [(1, _), (3, _), (42, _)]) (S' := [⟨b1, 30, 3, [_, _, _]⟩]) rfl rfl ⟨lk, lk, lk, trivial⟩) ?_
        refine OD.nil ?_
        refine CD.cond ot (fun hc4 => ?_) (fun hc4 => ?_)
        · have hc4' := hc4
          (try simp only [decide_eq_true_eq, decide_eq_false_iff_not, beq_iff_eq, bne_iff_ne, Bool.not_eq_true', Bool.not_eq_false', Bool.not_eq_true, Bool.not_eq_false, beq_eq_false_iff_ne, ne_eq, bne_eq_false_iff_eq, Bool.and_eq_true, Bool.or_eq_true, Bool.not_not, Bool.and_eq_false_iff, Bool.or_eq_false_iff, Int.not_lt, Int.not_le] at hc4')
          refine CD.draw (bks _) (by kernel_rfl) (fun _ h => h) ?_
          refine AD0.take (i := 0) rfl (by kernel_rfl) (by kernel_rfl) (by kernel_rfl) (by repeat (first | exact NP.body | apply NP.then | apply NP.cut | apply NP.inBlock | apply NP.round)) (wants_plain rfl) rfl (still_mv rfl ot) (by exact trivial) ?_
          refine AD0.take (i := 1) rfl (by kernel_rfl) (by kernel_rfl) (by kernel_rfl) (by repeat (first | exact NP.body | apply NP.then | apply NP.cut | apply NP.inBlock | apply NP.round)) (wants_plain rfl) rfl (still_mv rfl ot) (by exact trivial) ?_
          refine AD0.split (t := 45) lk (fun hg45 => ?_) (fun hg45 => ?_)
          · have hg45' := hg45; (try simp only [decide_eq_true_eq, decide_eq_false_iff_not, beq_iff_eq, bne_iff_ne, Bool.not_eq_true', Bool.not_eq_false', Bool.not_eq_true, Bool.not_eq_false, beq_eq_false_iff_ne, ne_eq, bne_eq_false_iff_eq, Bool.and_eq_true, Bool.or_eq_true, Bool.not_not, Bool.and_eq_false_iff, Bool.or_eq_false_iff, Int.not_lt, Int.not_le] at hg45')
            refine AD0.take (i := 2) rfl (by kernel_rfl) (by kernel_rfl) (by kernel_rfl) (by repeat (first | exact NP.body | apply NP.then | apply NP.cut | apply NP.inBlock | apply NP.round)) (wants_T rfl rfl rfl lk (by first | rfl | assumption)) rfl (still_rs (l := 0) (h := 0) rfl opd_glob trivial trivial (by first | exact sl_tabG (ls := marksL) (g := cS) hm rfl rfl Tryd.runUnderlying62 Tryd.sizeOf9 rfl (by decide) (by decide))) (by exact trivial) ?_
            refine AD0.take (i := 3) rfl (by kernel_rfl) (by kernel_rfl) (by kernel_rfl) (by repeat (first | exact NP.body | apply NP.then | apply NP.cut | apply NP.inBlock | apply NP.round)) (wants_T rfl rfl rfl lk (by first | rfl | assumption)) rfl (still_r1 (mk := fun y => Op.fieldAddr 30 y 1) rfl ot (by first | exact fa_ptr (off := 1) Tryd.runUnderlying30 rfl Tryd.sizeOf9 rfl | exact fa_iptr (off := 1) Tryd.runUnderlying30 rfl Tryd.sizeOf9 rfl)) (by exact trivial) ?_
            refine AD0.take (i := 4) rfl (by kernel_rfl) (by kernel_rfl) (by kernel_rfl) (by repeat (first | exact NP.body | apply NP.then | apply NP.cut | apply NP.inBlock | apply NP.round)) (wants_T rfl rfl rfl lk (by first | rfl | assumption)) rfl (still_r1 (mk := Op.load 9) rfl ot (by first | exact ld_blk (k := 0) rfl rfl Tryd.isAgg9 rfl | exact ld_i Tryd.isAgg9 rfl)) (by first | exact trivial | exact safe_blk (k0 := 0) rfl rfl) ?_
            refine AD0.later rfl ?_
            refine AD.one (i := 5) (by kernel_rfl) ?_
            refine AStep.callP rfl (wants_T rfl rfl rfl lk (by first | rfl | assumption)) rfl rfl rfl Tryd.call32 (contains_vp marksL t.s (by decide)) ⟨ot, ot, trivial⟩ ?_
            refine AD.take (i := 6) rfl (by kernel_rfl) (by kernel_rfl) (by kernel_rfl) (by repeat (first | exact NP.body | apply NP.then | apply NP.cut | apply NP.inBlock | apply NP.round)) (wants_plain rfl) rfl (still_pickT rfl ot (by first | rfl | assumption) ot) (by exact trivial) (by intro h; cases h) ?_
            refine AD.take (i := 7) rfl (by kernel_rfl) (by kernel_rfl) (by kernel_rfl) (by repeat (first | exact NP.body | apply NP.then | apply NP.cut | apply NP.inBlock | apply NP.round)) (wants_plain rfl) rfl (still_as rfl ot) (by exact trivial) (by intro h; cases h) ?_
            refine AD.wk (y := ⟨53, [(3, _)], [⟨b1, 30, 3, [_, _, _]⟩]⟩) (Wk.as_ rfl rfl ⟨lk, trivial⟩) rfl ?_
            refine AD.done (by kernel_rfl) ?_
            refine CD.seq ?_
            refine CD.seq ?_
            refine CD.region ?_
            refine OD.still (wants_plain rfl) rfl (still_mv rfl ot) ?_
            refine OD.still (wants_plain rfl) rfl (still_un rfl ot un_not) ?_
            refine OD.wk (Wk.as_ (n := 53) (l' := [(52, _)]) (S' := [⟨b1, 30, 3, [_, _, _]⟩]) rfl rfl ⟨lk, trivial⟩) ?_
            refine OD.nil ?_
            refine CD.cond ot (fun hc5 => ?_) (fun hc5 => ?_)
            · have hc5' := hc5
              (try simp only [decide_eq_true_eq, decide_eq_false_iff_not, beq_iff_eq, bne_iff_ne, Bool.not_eq_true', Bool.not_eq_false', Bool.not_eq_true, Bool.not_eq_false, beq_eq_false_iff_ne, ne_eq, bne_eq_false_iff_eq, Bool.and_eq_true, Bool.or_eq_true, Bool.not_not, Bool.and_eq_false_iff, Bool.or_eq_false_iff, Int.not_lt, Int.not_le] at hc5')
              refine CD.seq ?_
              refine CD.region ?_
              refine OD.still (wants_plain rfl) rfl (still_as rfl opd_const) ?_
              refine OD.wk (Wk.as_ (n := 53) (l' := [(2, _)]) (S' := [⟨b1, 30, 3, [_, _, _]⟩]) rfl rfl ⟨lk, trivial⟩) ?_
              refine OD.nil ?_
              refine CD.ret ?_
              refine ⟨.inr rfl, _, [], List.nil_sublist _, ret_one Tryd.results18 (res_tmp (Nat.le_of_ble_eq_true rfl) lk), ?_⟩
              refine ⟨vi ?_, rfl⟩
              try simp only [str_eq0] at *
              simp only [checkT, okWord]
              try simp_all
              try omega
            · have hc5' := hc5
              (try simp only [decide_eq_true_eq, decide_eq_false_iff_not, beq_iff_eq, bne_iff_ne, Bool.not_eq_true', Bool.not_eq_false', Bool.not_eq_true, Bool.not_eq_false, beq_eq_false_iff_ne, ne_eq, bne_eq_false_iff_eq, Bool.and_eq_true, Bool.or_eq_true, Bool.not_not, Bool.and_eq_false_iff, Bool.or_eq_false_iff, Int.not_lt, Int.not_le] at hc5')
              refine CD.skip ?_
              refine CD.seq ?_
              refine CD.region ?_
              refine OD.still (wants_plain rfl) rfl (still_as rfl opd_const) ?_
              refine OD.wk (Wk.as_ (n := 53) (l' := [(2, _)]) (S' := [⟨b1, 30, 3, [_, _, _]⟩]) rfl rfl ⟨lk, trivial⟩) ?_
              refine OD.nil ?_
              refine CD.ret ?_
              refine ⟨.inr rfl, _, [], List.nil_sublist _, ret_one Tryd.results18 (res_tmp (Nat.le_of_ble_eq_true rfl) lk), ?_⟩
              refine ⟨vi ?_, rfl⟩
              try simp only [str_eq0] at *
              simp only [checkT, okWord]
              try simp_all
              try omega
          · have hg45' := hg45; (try simp only [decide_eq_true_eq, decide_eq_false_iff_not, beq_iff_eq, bne_iff_ne, Bool.not_eq_true', Bool.not_eq_false', Bool.not_eq_true, Bool.not_eq_false, beq_eq_false_iff_ne, ne_eq, bne_eq_false_iff_eq, Bool.and_eq_true, Bool.or_eq_true, Bool.not_not, Bool.and_eq_false_iff, Bool.or_eq_false_iff, Int.not_lt, Int.not_le] at hg45')
            refine AD0.takeSkip (i := 2) rfl (by kernel_rfl) (by kernel_rfl) (by kernel_rfl) (by repeat (first | exact NP.body | apply NP.then | apply NP.cut | apply NP.inBlock | apply NP.round)) (wants_F rfl rfl rfl lk (by first | rfl | assumption)) rfl ?_
            refine AD0.takeSkip (i := 3) rfl (by kernel_rfl) (by kernel_rfl) (by kernel_rfl) (by repeat (first | exact NP.body | apply NP.then | apply NP.cut | apply NP.inBlock | apply NP.round)) (wants_F rfl rfl rfl lk (by first | rfl | assumption)) rfl ?_
            refine AD0.takeSkip (i := 4) rfl (by kernel_rfl) (by kernel_rfl) (by kernel_rfl) (by repeat (first | exact NP.body | apply NP.then | apply NP.cut | apply NP.inBlock | apply NP.round)) (wants_F rfl rfl rfl lk (by first | rfl | assumption)) rfl ?_
            refine AD0.later rfl ?_
            refine AD.one (i := 5) (by kernel_rfl) ?_
            refine AStep.skip rfl (wants_F rfl rfl rfl lk (by first | rfl | assumption)) rfl ?_
            refine AD.take (i := 6) rfl (by kernel_rfl) (by kernel_rfl) (by kernel_rfl) (by repeat (first | exact NP.body | apply NP.then | apply NP.cut | apply NP.inBlock | apply NP.round)) (wants_plain rfl) rfl (still_pickF rfl ot (by first | rfl | assumption) opd_const) (by exact trivial) (by intro h; cases h) ?_
            refine AD.take (i := 7) rfl (by kernel_rfl) (by kernel_rfl) (by kernel_rfl) (by repeat (first | exact NP.body | apply NP.then | apply NP.cut | apply NP.inBlock | apply NP.round)) (wants_plain rfl) rfl (still_as rfl ot) (by exact trivial) (by intro h; cases h) ?_
            refine AD.wk (y := ⟨53, [(3, _)], [⟨b1, 30, 3, [_, _, _]⟩]⟩) (Wk.as_ rfl rfl ⟨lk, trivial⟩) rfl ?_
            refine AD.done (by kernel_rfl) ?_
            refine CD.seq ?_
            refine CD.seq ?_
            refine CD.region ?_
            refine OD.still (wants_plain rfl) rfl (still_mv rfl ot) ?_
            refine OD.still (wants_plain rfl) rfl (still_un rfl ot un_not) ?_
            refine OD.wk (Wk.as_ (n := 53) (l' := [(52, _)]) (S' := [⟨b1, 30, 3, [_, _, _]⟩]) rfl rfl ⟨lk, trivial⟩) ?_
            refine OD.nil ?_
            refine CD.condT ot (by first | rfl | assumption) ?_
            refine CD.seq ?_
            refine CD.region ?_
            refine OD.still (wants_plain rfl) rfl (still_as rfl opd_const) ?_
            refine OD.wk (Wk.as_ (n := 53) (l' := [(2, _)]) (S' := [⟨b1, 30, 3, [_, _, _]⟩]) rfl rfl ⟨lk, trivial⟩) ?_
            refine OD.nil ?_
            refine CD.ret ?_
            refine ⟨.inr rfl, _, [], List.nil_sublist _, ret_one Tryd.results18 (res_tmp (Nat.le_of_ble_eq_true rfl) lk), ?_⟩
            refine ⟨vi ?_, rfl⟩
            try simp only [str_eq0] at *
            simp only [checkT, okWord]
            try simp_all
            try omega
        · have hc4' := hc4
          (try simp only [decide_eq_true_eq, decide_eq_false_iff_not, beq_iff_eq, bne_iff_ne, Bool.not_eq_true', Bool.not_eq_false', Bool.not_eq_true, Bool.not_eq_false, beq_eq_false_iff_ne, ne_eq, bne_eq_false_iff_eq, Bool.and_eq_true, Bool.or_eq_true, Bool.not_not, Bool.and_eq_false_iff, Bool.or_eq_false_iff, Int.not_lt, Int.not_le] at hc4')
          refine CD.seq ?_
          refine CD.region ?_
          refine OD.still (wants_plain rfl) rfl (still_as rfl opd_const) ?_
          refine OD.wk (Wk.as_ (n := 53) (l' := [(2, _)]) (S' := [⟨b1, 30, 3, [_, _, _]⟩]) rfl rfl ⟨lk, trivial⟩) ?_
          refine OD.nil ?_
          refine CD.ret ?_
          refine ⟨.inr rfl, _, [], List.nil_sublist _, ret_one Tryd.results18 (res_tmp (Nat.le_of_ble_eq_true rfl) lk), ?_⟩
          refine ⟨vi ?_, rfl⟩
          try simp only [str_eq0] at *
          simp only [checkT, okWord]
          try simp_all
          try omega

def wb (c : UInt8) : UInt8 := UInt8.ofNat (97 + c.toNat % 26)
theorem wb_nat (c : UInt8) : (wb c).toNat = 97 + c.toNat % 26 := by
  have : c.toNat % 26 < 26 := Nat.mod_lt _ (by decide)
  unfold wb
  rw [UInt8.toNat_ofNat']
  exact Nat.mod_eq_of_lt (by omega)
theorem wb_wrap (c : UInt8) : IntKind.u8.wrap (97 + (c.toNat : Int).tmod 26) = ((wb c).toNat : Int) := by
  rw [wb_nat]
  have h1 : (c.toNat : Int).tmod 26 = ((c.toNat % 26 : Nat) : Int) := rfl
  have : c.toNat % 26 < 26 := Nat.mod_lt _ (by decide)
  rw [h1]
  have e : (97 + ((c.toNat % 26 : Nat) : Int)) = ((97 + c.toNat % 26 : Nat) : Int) := by omega
  rw [e]
  show ((97 + c.toNat % 26 : Nat) : Int) % 256 = _
  omega
def wordL (s : ByteArray) : List UInt8 := if s.size = 0 then [120] else (s.data.toList.take 6).map wb
def wordF (s : ByteArray) : ByteArray := ⟨(wordL s).toArray⟩
theorem word_row {s : ByteArray} {k : Nat} (h : k < s.size) : (s.data.toList.take k).map wb ++ [wb (byteAt s k)] = (s.data.toList.take (k + 1)).map wb := by
  have h' : k < s.data.toList.length := by rw [str_len]; exact h
  rw [List.take_succ_eq_append_getElem h', List.map_append, byteAt_get h']; rfl
theorem word_end {s : ByteArray} {k : Nat} (hk : k ≤ s.size) (h : k = s.size ∨ 6 ≤ k) (h6 : k ≤ 6) : (s.data.toList.take k) = s.data.toList.take 6 := by
  rcases h with h | h
  · rw [List.take_of_length_le (by rw [str_len]; omega), List.take_of_length_le (by rw [str_len]; omega)]
  · rw [show k = 6 by omega]

theorem info5_Nm1 : (Tryd.prog.info? 5).map (fun i => (i.zero, i.size, i.bytes)) = some (some (.int .u8 0), 1, 1) := by kernel_rfl

set_option maxHeartbeats 4000000 in
set_option maxRecDepth 100000 in
theorem word_vp (s : ByteArray) (hs : s.size ≤ maxLen) : VP Tryd.prog G 8 [.v (.string s)] (.v (.string (wordF s))) := by
  refine VC.body Tryd.func8 rfl Tryd.ntmps8 (Nat.le_of_ble_eq_true rfl) fun X0 w0 S00 => ?_
  simp only [maxLen] at hs
  refine CD.seq ?_
  refine CD.region ?_
  refine OD.still (wants_plain rfl) rfl (still_as rfl opd_const) ?_
  refine OD.wk (Wk.as_ (n := 28) (l' := [(0, _)]) (S' := []) rfl rfl ⟨lk, trivial⟩) ?_
  refine OD.nil ?_
  refine CD.seq ?_
  refine CD.region ?_
  refine OD.still (wants_plain rfl) rfl (still_as rfl opd_const) ?_
  refine OD.wk (Wk.as_ (n := 28) (l' := [(0, _), (3, _)]) (S' := ([])) rfl rfl ⟨lk, lk, trivial⟩) ?_
  refine OD.nil ?_
  refine CD.seq ?_
  refine CD.seq ?_
  refine CD.region ?_
  refine OD.still (wants_plain rfl) rfl (still_as rfl opd_const) ?_
  refine OD.wk (Wk.as_ (n := 28) (l' := [(0, _), (3, _), (4, _)]) (S' := ([])) rfl rfl ⟨lk, lk, lk, trivial⟩) ?_
  refine OD.nil ?_
  refine CD.block ?_
  refine CD.wk (Wk.asS (n := 28) (l' := [(0, .v (.string s)), (3, .v (.slice none ((s.data.toList.take (0)).map wb).length (0))), (4, .v (.int .i64 ((0) : Nat)))]) (S' := (([]))) rfl (by repeat (first | exact List.Sublist.refl _ | apply List.Sublist.cons_cons | apply List.Sublist.cons)) ⟨(by (repeat (first | exact look_hit | (apply look_at; focus (first | rfl | (simp; done) | (congr 2; omega) | (apply row_eq; exact word_row hks) | (apply row_eq; simp; done))) | (apply look_miss; focus rfl))); done), (by (repeat (first | exact look_hit | (apply look_at; focus (first | rfl | (simp; done) | (congr 2; omega) | (apply row_eq; exact word_row hks) | (apply row_eq; simp; done))) | (apply look_miss; focus rfl))); done), (by (repeat (first | exact look_hit | (apply look_at; focus (first | rfl | (simp; done) | (congr 2; omega) | (apply row_eq; exact word_row hks) | (apply row_eq; simp; done))) | (apply look_miss; focus rfl))); done), trivial⟩) (CD.loop (fun (gh__ : Nat × Option Addr × Nat × List Blk) y__ => match gh__ with | (k, adb, cpb, Sb) => (k ≤ s.size) ∧ (k ≤ 6) ∧ (OwnL 5 1 (((s.data.toList.take k).map wb).flatMap cB) ((s.data.toList.take k).map wb).length adb cpb Sb) ∧ y__ = (⟨28, [(0, .v (.string s)), (3, .v (.slice adb ((s.data.toList.take k).map wb).length cpb)), (4, .v (.int .i64 (k : Nat)))], (Sb)⟩ : St)) (fun (gh__ : Nat × Option Addr × Nat × List Blk) => match gh__ with | (k, adb, cpb, Sb) => s.size - k) (0, none, 0, []) ⟨(Nat.zero_le _), (Nat.zero_le _), (OwnL.cast ownL_nil (by first | rfl | simp)), rfl⟩ ?_)
  rintro ⟨k, adb, cpb, Sb⟩ _ ⟨hk, h6, hob, rfl⟩
  refine CD.seq ?_
  refine CD.seq ?_
  refine CD.region ?_
  refine OD.still (wants_plain rfl) rfl (still_mv rfl ot) ?_
  refine OD.still (wants_plain rfl) rfl (still_mv rfl ot) ?_
  refine OD.still (wants_plain rfl) rfl (still_slen rfl rfl ot Tryd.runUnderlying9) ?_
  refine OD.still (wants_plain rfl) rfl (still_bin rfl ot ot bin_lss) ?_
  refine OD.still (wants_plain rfl) rfl (still_mv rfl ot) ?_
  refine OD.split (t := 9) lk (fun hg9 => ?_) (fun hg9 => ?_)
  · have hg9' := hg9; (try simp only [decide_eq_true_eq, decide_eq_false_iff_not, beq_iff_eq, bne_iff_ne, Bool.not_eq_true', Bool.not_eq_false', Bool.not_eq_true, Bool.not_eq_false, beq_eq_false_iff_ne, ne_eq, bne_eq_false_iff_eq, Bool.and_eq_true, Bool.or_eq_true, Bool.not_not] at hg9')
    refine OD.still (wants_T rfl rfl rfl lk (by first | rfl | assumption)) rfl (still_mv rfl ot) ?_
    refine OD.still (wants_T rfl rfl rfl lk (by first | rfl | assumption)) rfl (still_bin rfl ot opd_const bin_lss) ?_
    refine OD.still (wants_plain rfl) rfl (still_pickT rfl ot (by first | rfl | assumption) ot) ?_
    refine OD.wk (Wk.as_ (n := 28) (l' := [(0, _), (3, _), (4, _), (12, _)]) (S' := (Sb)) rfl rfl ⟨lk, lk, lk, lk, trivial⟩) ?_
    refine OD.nil ?_
    refine CD.cond ot (fun hc0 => ?_) (fun hc0 => ?_)
    · have hc0' := hc0
      (try simp only [decide_eq_true_eq, decide_eq_false_iff_not, beq_iff_eq, bne_iff_ne, Bool.not_eq_true', Bool.not_eq_false', Bool.not_eq_true, Bool.not_eq_false, beq_eq_false_iff_ne, ne_eq, bne_eq_false_iff_eq, Bool.and_eq_true, Bool.or_eq_true, Bool.not_not, Bool.and_eq_false_iff, Bool.or_eq_false_iff, Int.not_lt, Int.not_le] at hc0')
      refine CD.skip ?_
      refine CD.seq ?_
      refine CD.block ?_
      refine CD.region ?_
      refine OD.still (wants_plain rfl) rfl (still_mv rfl ot) ?_
      refine OD.still (wants_plain rfl) rfl (still_mv rfl ot) ?_
      have hks : k < s.size := by omega
      have hkc : s[k]? = some (byteAt s k) := str_at hks
      refine OD.still (wants_plain rfl) rfl (still_mv rfl ot) ?_
      refine OD.still (wants_plain rfl) rfl (still_sidx rfl ot ot Tryd.runUnderlying9 rfl (by first | assumption | rfl)) ?_
      refine OD.still (wants_plain rfl) rfl (still_bin rfl ot opd_const (bin_rem (by omega))) ?_
      refine OD.still (wants_plain rfl) rfl (still_bin (r := .int .u8 ((wb (byteAt s k)).toNat : Int)) rfl opd_const ot (bin_add (wb_wrap _))) ?_
      refine OD.bldS (pl := [(0, _)]) (zvs := [.int .u8 0]) (ds := [_]) (wants_plain rfl) rfl rfl Tryd.zeroValue5 Tryd.runUnderlying24 Tryd.sizeOf5 rfl rfl (by kernel_rfl) ⟨rfl, ot, trivial⟩ rfl rfl (fun b21 => ?_)
      refine OD.give (k := 0) (t := 21) (sz := 1) (m := 1) rfl lk rfl rfl rfl (Nat.le_refl _) (by decide) ?_
      refine OD.appendG (ls := ((s.data.toList.take k).map wb)) (new := [wb (byteAt s k)]) (Sq := Sb) cB_len cB_one (wants_plain rfl) rfl rfl Tryd.underlying24 info5_Nm1 rfl (by decide) ot hob (perm_r11 (A := [])) ot (by simp) (by simp [maxLen]; omega) (by simp; omega) (fun b22 cp22 h122 h222 => ?_)
      refine OD.perm (perm_q11 (S1 := [⟨b22, 5, cp22 * 1, List.flatMap cB (((s.data.toList.take k).map wb) ++ [wb (byteAt s k)])⟩]) (A := [])) ?_
      refine OD.still (wants_plain rfl) rfl (still_as rfl ot) ?_
      refine OD.wk (Wk.as_ (n := 28) (l' := [(0, _), (3, _), (4, _)]) (S' := ([⟨b22, 5, cp22 * 1, List.flatMap cB (((s.data.toList.take k).map wb) ++ [wb (byteAt s k)])⟩])) rfl rfl ⟨lk, lk, lk, trivial⟩) ?_
      refine OD.nil ?_
      refine CD.region ?_
      refine OD.still (wants_plain rfl) rfl (still_mv rfl ot) ?_
      refine OD.still (wants_plain rfl) rfl (still_bin rfl ot opd_const (bin_add (wrap_i64 (by omega) (by omega)))) ?_
      refine OD.still (wants_plain rfl) rfl (still_as rfl ot) ?_
      refine OD.wk (Wk.as_ (n := 28) (l' := [(0, _), (3, _), (4, _)]) (S' := ([⟨b22, 5, cp22 * 1, List.flatMap cB (((s.data.toList.take k).map wb) ++ [wb (byteAt s k)])⟩])) rfl rfl ⟨lk, lk, lk, trivial⟩) ?_
      refine OD.nil ?_
      refine ⟨((k + 1), (some ⟨b22, 0, none⟩), cp22, [⟨b22, 5, cp22 * 1, List.flatMap cB (((s.data.toList.take k).map wb) ++ [wb (byteAt s k)])⟩]), ⟨28, [(0, .v (.string s)), (3, .v (.slice ((some ⟨b22, 0, none⟩)) ((s.data.toList.take ((k + 1))).map wb).length cp22)), (4, .v (.int .i64 (((k + 1)) : Nat)))], (([⟨b22, 5, cp22 * 1, List.flatMap cB (((s.data.toList.take k).map wb) ++ [wb (byteAt s k)])⟩]))⟩, ?_, Wk.asS (n := 28) rfl (by repeat (first | exact List.Sublist.refl _ | apply List.Sublist.cons_cons | apply List.Sublist.cons)) ⟨(by (repeat (first | exact look_hit | (apply look_at; focus (first | rfl | (simp; done) | (congr 2; omega) | (apply row_eq; exact word_row hks) | (apply row_eq; simp; done))) | (apply look_miss; focus rfl))); done), (by (repeat (first | exact look_hit | (apply look_at; focus (first | rfl | (simp; done) | (congr 2; omega) | (apply row_eq; exact word_row hks) | (apply row_eq; simp; done))) | (apply look_miss; focus rfl))); done), (by (repeat (first | exact look_hit | (apply look_at; focus (first | rfl | (simp; done) | (congr 2; omega) | (apply row_eq; exact word_row hks) | (apply row_eq; simp; done))) | (apply look_miss; focus rfl))); done), trivial⟩, (by omega), (by omega), (OwnL.cast (ownL_row h122 h222) (by exact word_row hks)), rfl⟩
      first | omega | (simp only []; omega)
    · have hc0' := hc0
      (try simp only [decide_eq_true_eq, decide_eq_false_iff_not, beq_iff_eq, bne_iff_ne, Bool.not_eq_true', Bool.not_eq_false', Bool.not_eq_true, Bool.not_eq_false, beq_eq_false_iff_ne, ne_eq, bne_eq_false_iff_eq, Bool.and_eq_true, Bool.or_eq_true, Bool.not_not, Bool.and_eq_false_iff, Bool.or_eq_false_iff, Int.not_lt, Int.not_le] at hc0')
      refine CD.exit ?_
      refine CD.seq ?_
      refine CD.seq ?_
      refine CD.region ?_
      refine OD.still (wants_plain rfl) rfl (still_mv rfl ot) ?_
      refine OD.still (wants_plain rfl) rfl (still_r1 (mk := fun y => .call { callee := .builtin .len, args := #[y], argTypes := #[24] }) rfl ot (by first | exact len_list rfl Tryd.runUnderlying24 | exact len_row rfl Tryd.runUnderlying24)) ?_
      refine OD.still (wants_plain rfl) rfl (still_bin rfl ot opd_const bin_eql) ?_
      refine OD.wk (Wk.as_ (n := 28) (l' := [(3, _), (25, _)]) (S' := (Sb)) rfl rfl ⟨lk, lk, trivial⟩) ?_
      refine OD.nil ?_
      refine CD.cond ot (fun hc1 => ?_) (fun hc1 => ?_)
      · have hc1' := hc1
        (try simp only [decide_eq_true_eq, decide_eq_false_iff_not, beq_iff_eq, bne_iff_ne, Bool.not_eq_true', Bool.not_eq_false', Bool.not_eq_true, Bool.not_eq_false, beq_eq_false_iff_ne, ne_eq, bne_eq_false_iff_eq, Bool.and_eq_true, Bool.or_eq_true, Bool.not_not, Bool.and_eq_false_iff, Bool.or_eq_false_iff, Int.not_lt, Int.not_le] at hc1')
        refine CD.seq ?_
        refine CD.region ?_
        refine OD.still (wants_plain rfl) rfl (still_as rfl opd_const) ?_
        refine OD.wk (Wk.as_ (n := 28) (l' := [(2, _)]) (S' := (Sb)) rfl rfl ⟨lk, trivial⟩) ?_
        refine OD.nil ?_
        refine CD.ret ?_
        refine ⟨.inr rfl, _, [], List.nil_sublist _, ret_one Tryd.results8 (res_tmp (Nat.le_of_ble_eq_true rfl) lk), ?_⟩
        refine ⟨vs ?_, rfl⟩
        have hk6 : k = s.size ∨ 6 ≤ k := by omega
        have hmin : min k s.size = k := Nat.min_eq_left hk
        simp only [List.length_map, List.length_take, str_len, hmin] at *
        unfold wordF wordL
        first | (rw [if_pos (by omega)]; done) | (rw [if_neg (by omega), word_end hk hk6 h6])
      · have hc1' := hc1
        (try simp only [decide_eq_true_eq, decide_eq_false_iff_not, beq_iff_eq, bne_iff_ne, Bool.not_eq_true', Bool.not_eq_false', Bool.not_eq_true, Bool.not_eq_false, beq_eq_false_iff_ne, ne_eq, bne_eq_false_iff_eq, Bool.and_eq_true, Bool.or_eq_true, Bool.not_not, Bool.and_eq_false_iff, Bool.or_eq_false_iff, Int.not_lt, Int.not_le] at hc1')
        refine CD.skip ?_
        refine CD.seq ?_
        refine CD.region ?_
        refine OD.still (wants_plain rfl) rfl (still_mv rfl ot) ?_
        refine OD.giveL (t := 26) (Sq := Sb) lk hob (fm_len cB_len _) (perm_r11 (A := [])) ?_
        first | refine OD.still (wants_plain rfl) rfl (still_ofBytes rfl ot Tryd.underlying24 Tryd.underlying5 Tryd.underlying9) ?_ | refine OD.still (wants_plain rfl) rfl (still_ofBytesF rfl ot Tryd.underlying24 Tryd.underlying5 Tryd.underlying9) ?_
        refine OD.still (wants_plain rfl) rfl (still_as rfl ot) ?_
        refine OD.wk (Wk.as_ (n := 28) (l' := [(2, _)]) (S' := []) rfl rfl ⟨lk, trivial⟩) ?_
        refine OD.nil ?_
        refine CD.ret ?_
        refine ⟨.inr rfl, _, [], List.nil_sublist _, ret_one Tryd.results8 (res_tmp (Nat.le_of_ble_eq_true rfl) lk), ?_⟩
        refine ⟨vs ?_, rfl⟩
        have hk6 : k = s.size ∨ 6 ≤ k := by omega
        have hmin : min k s.size = k := Nat.min_eq_left hk
        simp only [List.length_map, List.length_take, str_len, hmin] at *
        unfold wordF wordL
        first | (rw [if_pos (by omega)]; done) | (rw [if_neg (by omega), word_end hk hk6 h6])
  · have hg9' := hg9; (try simp only [decide_eq_true_eq, decide_eq_false_iff_not, beq_iff_eq, bne_iff_ne, Bool.not_eq_true', Bool.not_eq_false', Bool.not_eq_true, Bool.not_eq_false, beq_eq_false_iff_ne, ne_eq, bne_eq_false_iff_eq, Bool.and_eq_true, Bool.or_eq_true, Bool.not_not] at hg9')
    refine OD.skip (wants_F rfl rfl rfl lk (by first | rfl | assumption)) rfl ?_
    refine OD.skip (wants_F rfl rfl rfl lk (by first | rfl | assumption)) rfl ?_
    refine OD.still (wants_plain rfl) rfl (still_pickF rfl ot (by first | rfl | assumption) opd_const) ?_
    refine OD.wk (Wk.as_ (n := 28) (l' := [(0, _), (3, _), (4, _), (12, _)]) (S' := (Sb)) rfl rfl ⟨lk, lk, lk, lk, trivial⟩) ?_
    refine OD.nil ?_
    refine CD.condF ot (by first | rfl | assumption) ?_
    refine CD.exit ?_
    refine CD.seq ?_
    refine CD.seq ?_
    refine CD.region ?_
    refine OD.still (wants_plain rfl) rfl (still_mv rfl ot) ?_
    refine OD.still (wants_plain rfl) rfl (still_r1 (mk := fun y => .call { callee := .builtin .len, args := #[y], argTypes := #[24] }) rfl ot (by first | exact len_list rfl Tryd.runUnderlying24 | exact len_row rfl Tryd.runUnderlying24)) ?_
    refine OD.still (wants_plain rfl) rfl (still_bin rfl ot opd_const bin_eql) ?_
    refine OD.wk (Wk.as_ (n := 28) (l' := [(3, _), (25, _)]) (S' := (Sb)) rfl rfl ⟨lk, lk, trivial⟩) ?_
    refine OD.nil ?_
    refine CD.cond ot (fun hc1 => ?_) (fun hc1 => ?_)
    · have hc1' := hc1
      (try simp only [decide_eq_true_eq, decide_eq_false_iff_not, beq_iff_eq, bne_iff_ne, Bool.not_eq_true', Bool.not_eq_false', Bool.not_eq_true, Bool.not_eq_false, beq_eq_false_iff_ne, ne_eq, bne_eq_false_iff_eq, Bool.and_eq_true, Bool.or_eq_true, Bool.not_not, Bool.and_eq_false_iff, Bool.or_eq_false_iff, Int.not_lt, Int.not_le] at hc1')
      refine CD.seq ?_
      refine CD.region ?_
      refine OD.still (wants_plain rfl) rfl (still_as rfl opd_const) ?_
      refine OD.wk (Wk.as_ (n := 28) (l' := [(2, _)]) (S' := (Sb)) rfl rfl ⟨lk, trivial⟩) ?_
      refine OD.nil ?_
      refine CD.ret ?_
      refine ⟨.inr rfl, _, [], List.nil_sublist _, ret_one Tryd.results8 (res_tmp (Nat.le_of_ble_eq_true rfl) lk), ?_⟩
      refine ⟨vs ?_, rfl⟩
      have hk6 : k = s.size ∨ 6 ≤ k := by omega
      have hmin : min k s.size = k := Nat.min_eq_left hk
      simp only [List.length_map, List.length_take, str_len, hmin] at *
      unfold wordF wordL
      first | (rw [if_pos (by omega)]; done) | (rw [if_neg (by omega), word_end hk hk6 h6])
    · have hc1' := hc1
      (try simp only [decide_eq_true_eq, decide_eq_false_iff_not, beq_iff_eq, bne_iff_ne, Bool.not_eq_true', Bool.not_eq_false', Bool.not_eq_true, Bool.not_eq_false, beq_eq_false_iff_ne, ne_eq, bne_eq_false_iff_eq, Bool.and_eq_true, Bool.or_eq_true, Bool.not_not, Bool.and_eq_false_iff, Bool.or_eq_false_iff, Int.not_lt, Int.not_le] at hc1')
      refine CD.skip ?_
      refine CD.seq ?_
      refine CD.region ?_
      refine OD.still (wants_plain rfl) rfl (still_mv rfl ot) ?_
      refine OD.giveL (t := 26) (Sq := Sb) lk hob (fm_len cB_len _) (perm_r11 (A := [])) ?_
      first | refine OD.still (wants_plain rfl) rfl (still_ofBytes rfl ot Tryd.underlying24 Tryd.underlying5 Tryd.underlying9) ?_ | refine OD.still (wants_plain rfl) rfl (still_ofBytesF rfl ot Tryd.underlying24 Tryd.underlying5 Tryd.underlying9) ?_
      refine OD.still (wants_plain rfl) rfl (still_as rfl ot) ?_
      refine OD.wk (Wk.as_ (n := 28) (l' := [(2, _)]) (S' := []) rfl rfl ⟨lk, trivial⟩) ?_
      refine OD.nil ?_
      refine CD.ret ?_
      refine ⟨.inr rfl, _, [], List.nil_sublist _, ret_one Tryd.results8 (res_tmp (Nat.le_of_ble_eq_true rfl) lk), ?_⟩
      refine ⟨vs ?_, rfl⟩
      have hk6 : k = s.size ∨ 6 ≤ k := by omega
      have hmin : min k s.size = k := Nat.min_eq_left hk
      simp only [List.length_map, List.length_take, str_len, hmin] at *
      unfold wordF wordL
      first | (rw [if_pos (by omega)]; done) | (rw [if_neg (by omega), word_end hk hk6 h6])

abbrev MarksTab (w : World) : Prop := Tab.TabAt w 0 marksC

end Go.Proofs.YtdlcfkkkjklanaaDoor.Nm

namespace Go.Proofs.YtdlcfkkkjklanaaDoor.Pk
open Go.RowKit V
set_option linter.unusedVariables false
set_option linter.unusedSimpArgs false

def pickedF (n m : Int) : Int := if n < 0 then (-(n + 1)).tmod m else n.tmod m
theorem pickedF_bd (n : Int) {m : Int} (h : 1 ≤ m) : 0 ≤ pickedF n m ∧ pickedF n m < m := by
  have key : ∀ k : Int, 0 ≤ k → 0 ≤ k.tmod m ∧ k.tmod m < m := fun k hk => ⟨Int.tmod_nonneg _ hk, Int.tmod_lt_of_pos _ (by omega)⟩
  unfold pickedF
  split
  · exact key _ (by omega)
  · exact key _ (by omega)
variable (G : List (Nat × List Value))

set_option maxHeartbeats 4000000 in
set_option maxRecDepth 100000 in
theorem picked_vp (n m : Int) (hn : -9223372036854775808 ≤ n) (hn2 : n ≤ 9223372036854775807) (hm : 1 ≤ m) : VP Tryd.prog G 9 [.v (.int .i64 n), .v (.int .i64 m)] (.v (.int .i64 (pickedF n m))) := by
  refine VC.body Tryd.func9 rfl Tryd.ntmps9 (Nat.le_of_ble_eq_true rfl) fun X0 w0 S00 => ?_
  refine CD.seq ?_
  refine CD.region ?_
  refine OD.still (wants_plain rfl) rfl (still_as rfl opd_const) ?_
  refine OD.wk (Wk.as_ (n := 13) (l' := [(0, _), (1, _)]) (S' := []) rfl rfl ⟨lk, lk, trivial⟩) ?_
  refine OD.nil ?_
  refine CD.seq ?_
  refine CD.seq ?_
  refine CD.region ?_
  refine OD.still (wants_plain rfl) rfl (still_mv rfl ot) ?_
  refine OD.still (wants_plain rfl) rfl (still_bin rfl ot opd_const bin_lss) ?_
  refine OD.wk (Wk.as_ (n := 13) (l' := [(0, _), (1, _), (6, _)]) (S' := []) rfl rfl ⟨lk, lk, lk, trivial⟩) ?_
  refine OD.nil ?_
  refine CD.cond ot (fun hc0 => ?_) (fun hc0 => ?_)
  · have hc0' := hc0
    (try simp only [decide_eq_true_eq, decide_eq_false_iff_not, beq_iff_eq, bne_iff_ne, Bool.not_eq_true', Bool.not_eq_false', Bool.not_eq_true, Bool.not_eq_false, beq_eq_false_iff_ne, ne_eq, bne_eq_false_iff_eq, Bool.and_eq_true, Bool.or_eq_true, Bool.not_not, Bool.and_eq_false_iff, Bool.or_eq_false_iff, Int.not_lt, Int.not_le] at hc0')
    refine CD.region ?_
    refine OD.still (wants_plain rfl) rfl (still_mv rfl ot) ?_
    refine OD.still (wants_plain rfl) rfl (still_bin rfl ot opd_const (bin_add (wrap_i64 (by omega) (by omega)))) ?_
    refine OD.still (wants_plain rfl) rfl (still_un rfl ot (un_neg (r := -(n+1)) (by rw [wrap_i64] <;> omega))) ?_
    refine OD.still (wants_plain rfl) rfl (still_as rfl ot) ?_
    refine OD.wk (Wk.as_ (n := 13) (l' := [(0, _), (1, _)]) (S' := []) rfl rfl ⟨lk, lk, trivial⟩) ?_
    refine OD.nil ?_
    refine CD.seq ?_
    refine CD.region ?_
    refine OD.still (wants_plain rfl) rfl (still_mv rfl ot) ?_
    refine OD.still (wants_plain rfl) rfl (still_mv rfl ot) ?_
    refine OD.still (wants_plain rfl) rfl (still_bin rfl ot ot (bin_rem (by omega))) ?_
    refine OD.still (wants_plain rfl) rfl (still_as rfl ot) ?_
    refine OD.wk (Wk.as_ (n := 13) (l' := [(4, _)]) (S' := []) rfl rfl ⟨lk, trivial⟩) ?_
    refine OD.nil ?_
    refine CD.ret ?_
    refine ⟨.inr rfl, _, [], List.nil_sublist _, ret_one Tryd.results9 (res_tmp (Nat.le_of_ble_eq_true rfl) lk), ?_⟩
    exact ⟨by unfold pickedF; split <;> first | rfl | omega, rfl⟩
  · have hc0' := hc0
    (try simp only [decide_eq_true_eq, decide_eq_false_iff_not, beq_iff_eq, bne_iff_ne, Bool.not_eq_true', Bool.not_eq_false', Bool.not_eq_true, Bool.not_eq_false, beq_eq_false_iff_ne, ne_eq, bne_eq_false_iff_eq, Bool.and_eq_true, Bool.or_eq_true, Bool.not_not, Bool.and_eq_false_iff, Bool.or_eq_false_iff, Int.not_lt, Int.not_le] at hc0')
    refine CD.skip ?_
    refine CD.seq ?_
    refine CD.region ?_
    refine OD.still (wants_plain rfl) rfl (still_mv rfl ot) ?_
    refine OD.still (wants_plain rfl) rfl (still_mv rfl ot) ?_
    refine OD.still (wants_plain rfl) rfl (still_bin rfl ot ot (bin_rem (by omega))) ?_
    refine OD.still (wants_plain rfl) rfl (still_as rfl ot) ?_
    refine OD.wk (Wk.as_ (n := 13) (l' := [(4, _)]) (S' := []) rfl rfl ⟨lk, trivial⟩) ?_
    refine OD.nil ?_
    refine CD.ret ?_
    refine ⟨.inr rfl, _, [], List.nil_sublist _, ret_one Tryd.results9 (res_tmp (Nat.le_of_ble_eq_true rfl) lk), ?_⟩
    exact ⟨by unfold pickedF; split <;> first | rfl | omega, rfl⟩

end Go.Proofs.YtdlcfkkkjklanaaDoor.Pk

namespace Go.Proofs.YtdlcfkkkjklanaaDoor.V
open Go.RowKit
set_option linter.unusedVariables false
set_option linter.unusedSimpArgs false

variable {P : Program} {C : Ctx} {G : List (Nat × List Value)} {Q : Exit → St → Prop} {x : St} {ops : Array Oper} {l : List Oper} {o : Oper}

theorem RepL.flatten {w : World} {L : Nat → Prop} {us vs : List Value} (h : RepL w L (us.map .v) vs) : vs = us := by
  refine List.ext_getElem (by simpa using h.1) fun i h1 h2 => ?_
  have := h.2 i (by simpa using h2) h1
  simp only [List.getElem_map] at this
  exact this.v_eq

/-- A contract that speaks of worlds. -/
theorem VP.ofCalls {f : FuncId} {vs : List Value} {v : Value} (h : ∀ w : World, (∀ g ∈ G, ∀ (i : Nat) (u : Value), g.2[i]? = some u → tabCell w g.1 i u) → Calls P f vs.toArray w fun e w' => e = .returned v ∧ Below w.heap.size w w') : VP P G f (vs.map .v) (.v v) := fun X w us hp => by
  have hu : us = vs := hp.args.flatten
  subst hu
  refine (h w fun g hg i u hi => (hp.tab g hg).2 i u hi).mono fun e w' ⟨h1, h2⟩ => ?_
  refine ⟨v, .v v, [], h1, ⟨rfl, rfl⟩, ⟨fun B hB => by simp at hB, by simp [bks]⟩, .v _, ⟨h2.os, h2.tape, h2.output, h2.size, fun b hb _ => ⟨h2.block b hb, by simp [bks]⟩⟩⟩

/-! ### make -/

end Go.Proofs.YtdlcfkkkjklanaaDoor.V

namespace Go.Proofs.YtdlcfkkkjklanaaDoor.V
open Go.RowKit
set_option linter.unusedVariables false
set_option linter.unusedSimpArgs false

variable {P : Program} {G : List (Nat × List Value)} {x : St} {o : Oper} {C : Ctx} {S : List Blk}

theorem still_tloads {t : TypeId} {b n : Nat} {vs : List Value} {y : Operand} (ho : o.op = .load t y) (hy : opd x y = .v (.pointer (some ⟨b, 0, none⟩)))
    (hg : (b, vs) ∈ G) (ha : ∀ w, (isAgg t).run P w = .ok true w) (hn : ∀ w, (sizeOf t).run P w = .ok n w) (hl : vs.length = n) (hpv : vs.all plainV = true := by rfl) : Still P G x o .imm (.agg (vs.map .v)) := fun C a w hG h => by
  subst hG
  refine ⟨.agg vs.toArray, .agg _ vs (by simp) (fun i q1 q2 => ?_), fun w' hw => ?_⟩
  · simp only [List.getElem_map]; exact .v _
  · obtain ⟨⟨q1, q2, q3⟩, _⟩ := h.tab _ hg
    have hb : b < w.heap.size := Nat.lt_of_lt_of_le q1 h.fr.size
    have hnl : ¬ live C.X x.S b := fun hl => hl.elim q3 (h.fr.block b q1 q2).2
    have := run_loadN (P := P) (t := t) (b := b) (o' := 0) (vs := vs) (w := w') ha hn hl (fun j hj => by
      rw [World.cell?_of_block (w := w) (a := ⟨b, 0 + j, none⟩) (hw b hb hnl), Nat.zero_add]
      exact (h.tabAt hg (List.getElem?_eq_getElem hj)).cell (plain_at hpv (List.getElem?_eq_getElem hj)))
    unfold execOp
    simp only [ho, h.flat hy, Sem.run_bind, this, Result.andThen_ok, Sem.run_pure]
theorem ld_tabs {t b n : Nat} {vs : List Value} (hg : (b, vs) ∈ G) (ha : ∀ w, (isAgg t).run P w = .ok true w) (hn : ∀ w, (sizeOf t).run P w = .ok n w) (hl : vs.length = n) (hpv : vs.all plainV = true := by rfl) : R1 P G S (Op.load t) (.v (.pointer (some ⟨b, 0, none⟩))) .imm (.agg (vs.map .v)) := fun x o y ho hy _ => still_tloads ho hy hg ha hn hl hpv

theorem equal_nilnil {t : TypeId} {ms : Array (String × TypeId)} (w : World) (hu : P.underlying t = some (.interface ms)) : (Op.equal t .nilIface .nilIface).run P w = .ok true w := by
  show (Op.equalIn (9999 + 1) t _ _).run P w = _
  rw [Op.equalIn]
  simp [run_underlying hu]
theorem equal_heldnil {t u : TypeId} {p : Value} {ms : Array (String × TypeId)} (w : World) (hu : P.underlying t = some (.interface ms)) : (Op.equal t (.iface u p) .nilIface).run P w = .ok false w := by
  show (Op.equalIn (9999 + 1) t _ _).run P w = _
  rw [Op.equalIn]
  simp [run_underlying hu]
theorem still_errNo {t t' : TypeId} {ms : Array (String × TypeId)} {y : Operand} (ho : o.op = .binOp .neq t y (.const .nilIface) t') (hy : opd x y = .v .nilIface) (hu : P.underlying t = some (.interface ms)) : Still P G x o .none (.v (.bool false)) := fun C a w _ h =>
  ⟨_, .v _, fun w' _ => by
    have e : binOp .neq t .nilIface .nilIface = (do pure (.bool (!(← Op.equal t .nilIface .nilIface)))) := rfl
    have e2 : a.eval (.const .nilIface) = .nilIface := rfl
    unfold execOp
    simp only [ho, h.flat hy, e2, eqGuard, e, Sem.run_bind]
    simp [equal_nilnil w' hu]⟩
theorem still_errYes {t t' te : TypeId} {p : Value} {ms : Array (String × TypeId)} {y : Operand} (ho : o.op = .binOp .neq t y (.const .nilIface) t') (hy : opd x y = .v (.iface te p)) (hu : P.underlying t = some (.interface ms)) : Still P G x o .none (.v (.bool true)) := fun C a w _ h =>
  ⟨_, .v _, fun w' _ => by
    have e : binOp .neq t (.iface te p) .nilIface = (do pure (.bool (!(← Op.equal t (.iface te p) .nilIface)))) := rfl
    have e2 : a.eval (.const .nilIface) = .nilIface := rfl
    unfold execOp
    simp only [ho, h.flat hy, e2, eqGuard, e, Sem.run_bind]
    simp [equal_heldnil w' hu]⟩

end Go.Proofs.YtdlcfkkkjklanaaDoor.V

namespace Go.Proofs
open Go.Shelf
def Tryd.lays169_ren : Go.Shelf.Ren := ⟨fun | 169 => 24 | n => n, fun | 70 => 49 | 9 => 9 | 0 => 0 | 72 => 51 | 37 => 24 | 127 => 66 | 3 => 3 | 5 => 5 | n => n, fun | n => n⟩
theorem Tryd.lays169 : Go.Proofs.Lays.n169 Tryd.prog Tryd.lays169_ren := {
  mixed := by kernel_rfl
  f169 := Tryd.func24.trans (congrArg some (by kernel_rfl))
  t0 := Tryd.underlying0
  a0 := Tryd.isAgg0
  z0 := Tryd.sizeOf0
  v0 := Tryd.zeroValue0
  t3 := Tryd.underlying3
  a3 := Tryd.isAgg3
  z3 := Tryd.sizeOf3
  v3 := Tryd.zeroValue3
  t9 := Tryd.underlying9
  a9 := Tryd.isAgg9
  z9 := Tryd.sizeOf9
  v9 := Tryd.zeroValue9
  t37 := Tryd.underlying24
  a37 := Tryd.isAgg24
  z37 := Tryd.sizeOf24
  v37 := Tryd.zeroValue24
  t70 := Tryd.underlying49
  a70 := Tryd.isAgg49
  z70 := Tryd.sizeOf49
  v70 := Tryd.zeroValue49
  t72 := Tryd.underlying51
  a72 := Tryd.isAgg51
  z72 := Tryd.sizeOf51
  v72 := Tryd.zeroValue51
  t127 := Tryd.underlying66
  a127 := Tryd.isAgg66
  z127 := Tryd.sizeOf66
  v127 := Tryd.zeroValue66 }
theorem Tryd.Builder_Extra_169 : Builder.Extra Tryd.prog Tryd.lays169_ren := {
  sizeBuilder := by kernel_rfl
  liesBuilder := by kernel_rfl
  t5 := Tryd.underlying5
  a5 := Tryd.isAgg5
  z5 := Tryd.sizeOf5
  v5 := Tryd.zeroValue5
  infoByte := by kernel_rfl
  cellsByte := by kernel_rfl
  sizeByte := by kernel_rfl
  neB5 := by decide }
open Go.RowKit in
/-- (*strings.Builder).String: "String returns the accumulated string.": WHATEVER THE BUILDER HOLDS; THE FORM '_f': OF A BUILDER THAT MAY HAVE BEEN READ BEFORE; AND IT IS A BUILDER STILL, holding the same bytes: it can be written on. (LAID: no walk: one application.) -/
theorem Tryd.Builder_String_any_f (B b : Nat) (l : List UInt8) (w : World) (h : Lib.IsBuilderF 51 5 B b (Lib.byteCells l) w) (hBw : B ≤ w.heap.size) :
    Calls Tryd.prog 24 #[.pointer (some ⟨b, 0, none⟩)] w fun e w' => e = .returned (.string ⟨l.toArray⟩) ∧ (Lib.IsBuilderF 51 5 B b (Lib.byteCells l) w' ∧ Below B w w') := Any.Builder_String_any_f Tryd.lays169 Tryd.Builder_Extra_169 B b l w h hBw
def Tryd.laysM171_ren : Go.Shelf.Ren := ⟨fun | 171 => 20 | 243 => 34 | 246 => 41 | 283 => 51 | 284 => 52 | 285 => 53 | 286 => 54 | 129 => 64 | 317 => 63 | 318 => 65 | 319 => 66 | 320 => 67 | 337 => 75 | 338 => 76 | n => n, fun | 3 => 3 | 9 => 9 | 2 => 2 | 4 => 4 | 171 => 82 | 0 => 0 | 53 => 83 | 37 => 24 | 5 => 5 | 173 => 86 | 212 => 98 | 51 => 99 | 20 => 20 | 213 => 100 | 46 => 92 | 232 => 114 | 233 => 115 | n => n, fun | 17 => 3 | 18 => 7 | 19 => 8 | n => n⟩
theorem Tryd.laysM171 : Go.Proofs.LaysM.n171 Tryd.prog Tryd.laysM171_ren := {
  mixed := by kernel_rfl
  f129 := Tryd.func64.trans (congrArg some (by kernel_rfl))
  f171 := Tryd.func20.trans (congrArg some (by kernel_rfl))
  f243 := Tryd.func34.trans (congrArg some (by kernel_rfl))
  f246 := Tryd.func41.trans (congrArg some (by kernel_rfl))
  f283 := Tryd.func51.trans (congrArg some (by kernel_rfl))
  f284 := Tryd.func52.trans (congrArg some (by kernel_rfl))
  f285 := Tryd.func53.trans (congrArg some (by kernel_rfl))
  f286 := Tryd.func54.trans (congrArg some (by kernel_rfl))
  f317 := Tryd.func63.trans (congrArg some (by kernel_rfl))
  f318 := Tryd.func65.trans (congrArg some (by kernel_rfl))
  f319 := Tryd.func66.trans (congrArg some (by kernel_rfl))
  f320 := Tryd.func67.trans (congrArg some (by kernel_rfl))
  f337 := Tryd.func75.trans (congrArg some (by kernel_rfl))
  f338 := Tryd.func76.trans (congrArg some (by kernel_rfl))
  t0 := Tryd.underlying0
  a0 := Tryd.isAgg0
  z0 := Tryd.sizeOf0
  v0 := Tryd.zeroValue0
  t2 := Tryd.underlying2
  a2 := Tryd.isAgg2
  z2 := Tryd.sizeOf2
  v2 := Tryd.zeroValue2
  t3 := Tryd.underlying3
  a3 := Tryd.isAgg3
  z3 := Tryd.sizeOf3
  v3 := Tryd.zeroValue3
  t4 := Tryd.underlying4
  a4 := Tryd.isAgg4
  z4 := Tryd.sizeOf4
  v4 := Tryd.zeroValue4
  t5 := Tryd.underlying5
  a5 := Tryd.isAgg5
  z5 := Tryd.sizeOf5
  v5 := Tryd.zeroValue5
  t9 := Tryd.underlying9
  a9 := Tryd.isAgg9
  z9 := Tryd.sizeOf9
  v9 := Tryd.zeroValue9
  t20 := Tryd.underlying20
  a20 := Tryd.isAgg20
  z20 := Tryd.sizeOf20
  v20 := Tryd.zeroValue20
  t37 := Tryd.underlying24
  a37 := Tryd.isAgg24
  z37 := Tryd.sizeOf24
  v37 := Tryd.zeroValue24
  t46 := Tryd.underlying92
  a46 := Tryd.isAgg92
  z46 := Tryd.sizeOf92
  v46 := Tryd.zeroValue92
  t51 := Tryd.underlying99
  a51 := Tryd.isAgg99
  z51 := Tryd.sizeOf99
  v51 := Tryd.zeroValue99
  t53 := Tryd.underlying83
  a53 := Tryd.isAgg83
  z53 := Tryd.sizeOf83
  v53 := Tryd.zeroValue83
  t171 := Tryd.underlying82
  a171 := Tryd.isAgg82
  z171 := Tryd.sizeOf82
  v171 := Tryd.zeroValue82
  t173 := Tryd.underlying86
  a173 := Tryd.isAgg86
  z173 := Tryd.sizeOf86
  v173 := Tryd.zeroValue86
  t212 := Tryd.underlying98
  a212 := Tryd.isAgg98
  z212 := Tryd.sizeOf98
  v212 := Tryd.zeroValue98
  t213 := Tryd.underlying100
  a213 := Tryd.isAgg100
  z213 := Tryd.sizeOf100
  t232 := Tryd.underlying114
  a232 := Tryd.isAgg114
  z232 := Tryd.sizeOf114
  v232 := Tryd.zeroValue114
  t233 := Tryd.underlying115
  a233 := Tryd.isAgg115
  z233 := Tryd.sizeOf115
  v233 := Tryd.zeroValue115
  g17 := by kernel_rfl
  g18 := by kernel_rfl
  g19 := by kernel_rfl
  i0 := by kernel_rfl
  i2 := by kernel_rfl
  i3 := by kernel_rfl
  i4 := by kernel_rfl
  i5 := by kernel_rfl
  i9 := by kernel_rfl
  i20 := by kernel_rfl
  i37 := by kernel_rfl
  i46 := by kernel_rfl
  i51 := by kernel_rfl
  i53 := by kernel_rfl
  i171 := by kernel_rfl
  i173 := by kernel_rfl
  i212 := by kernel_rfl
  i232 := by kernel_rfl
  i233 := by kernel_rfl
  m17 := by kernel_rfl
  m18 := by kernel_rfl
  m19 := by kernel_rfl }
open Go.RowKit Go.Sort Go.Lib in
/-- strconv.Itoa: "Itoa is equivalent to FormatInt(int64(i), 10).": i's DECIMAL NUMERAL ('Lib.itoa': a '-' where i is negative, then the digits), FOR EVERY int. The world behind the call: the world before it, new blocks behind the heap (the library's 'var a [24]byte'), draws. (LAID: no walk: one application.) -/
theorem Tryd.strconv_Itoa (n : Int) (h0 : -9223372036854775808 ≤ n) (h1 : n ≤ 9223372036854775807) (w : World) (htab : Lib.TabIs Tryd.prog w "internal/strconv.uint64pow10" .u64 Lib.pow10Tab) :
    Calls Tryd.prog 20 #[.int .i64 n] w fun e w' => e = .returned (.string ⟨(Lib.itoa n).toArray⟩) ∧ ∃ k os, w' = grow (w.drewN k) os := Any.strconv_Itoa Tryd.laysM171 n h0 h1 w htab
def Tryd.laysC172_ren : Go.Shelf.Ren := ⟨fun | 172 => 28 | 244 => 36 | 245 => 37 | 247 => 46 | 279 => 47 | 280 => 48 | 281 => 49 | 282 => 50 | 287 => 60 | 316 => 61 | 171 => 20 | 205 => 62 | 321 => 73 | 322 => 74 | 243 => 34 | 246 => 41 | 283 => 51 | 284 => 52 | 285 => 53 | 286 => 54 | 129 => 64 | 317 => 63 | 318 => 65 | 319 => 66 | 320 => 67 | 337 => 75 | 338 => 76 | n => n, fun | 9 => 9 | 3 => 3 | 75 => 54 | 76 => 55 | 4 => 4 | 5 => 5 | 167 => 76 | 37 => 24 | 0 => 0 | 85 => 77 | 2 => 2 | 168 => 79 | 53 => 83 | 175 => 90 | 46 => 92 | 210 => 94 | 127 => 66 | 145 => 110 | 143 => 108 | 21 => 21 | 171 => 82 | 173 => 86 | 212 => 98 | 51 => 99 | 20 => 20 | 213 => 100 | 232 => 114 | 233 => 115 | 80 => 61 | n => n, fun | 15 => 1 | 16 => 2 | 17 => 3 | 18 => 7 | 19 => 8 | n => n⟩
theorem Tryd.laysC172 : Go.Proofs.LaysC.n172 Tryd.prog Tryd.laysC172_ren := {
  mixed := by kernel_rfl
  f129 := Tryd.func64.trans (congrArg some (by kernel_rfl))
  f171 := Tryd.func20.trans (congrArg some (by kernel_rfl))
  f172 := Tryd.func28.trans (congrArg some (by kernel_rfl))
  f205 := Tryd.func62.trans (congrArg some (by kernel_rfl))
  f243 := Tryd.func34.trans (congrArg some (by kernel_rfl))
  f244 := Tryd.func36.trans (congrArg some (by kernel_rfl))
  f245 := Tryd.func37.trans (congrArg some (by kernel_rfl))
  f246 := Tryd.func41.trans (congrArg some (by kernel_rfl))
  f247 := Tryd.func46.trans (congrArg some (by kernel_rfl))
  f279 := Tryd.func47.trans (congrArg some (by kernel_rfl))
  f280 := Tryd.func48.trans (congrArg some (by kernel_rfl))
  f281 := Tryd.func49.trans (congrArg some (by kernel_rfl))
  f282 := Tryd.func50.trans (congrArg some (by kernel_rfl))
  f283 := Tryd.func51.trans (congrArg some (by kernel_rfl))
  f284 := Tryd.func52.trans (congrArg some (by kernel_rfl))
  f285 := Tryd.func53.trans (congrArg some (by kernel_rfl))
  f286 := Tryd.func54.trans (congrArg some (by kernel_rfl))
  f287 := Tryd.func60.trans (congrArg some (by kernel_rfl))
  f316 := Tryd.func61.trans (congrArg some (by kernel_rfl))
  f317 := Tryd.func63.trans (congrArg some (by kernel_rfl))
  f318 := Tryd.func65.trans (congrArg some (by kernel_rfl))
  f319 := Tryd.func66.trans (congrArg some (by kernel_rfl))
  f320 := Tryd.func67.trans (congrArg some (by kernel_rfl))
  f321 := Tryd.func73.trans (congrArg some (by kernel_rfl))
  f322 := Tryd.func74.trans (congrArg some (by kernel_rfl))
  f337 := Tryd.func75.trans (congrArg some (by kernel_rfl))
  f338 := Tryd.func76.trans (congrArg some (by kernel_rfl))
  t0 := Tryd.underlying0
  a0 := Tryd.isAgg0
  z0 := Tryd.sizeOf0
  v0 := Tryd.zeroValue0
  t2 := Tryd.underlying2
  a2 := Tryd.isAgg2
  z2 := Tryd.sizeOf2
  v2 := Tryd.zeroValue2
  t3 := Tryd.underlying3
  a3 := Tryd.isAgg3
  z3 := Tryd.sizeOf3
  v3 := Tryd.zeroValue3
  t4 := Tryd.underlying4
  a4 := Tryd.isAgg4
  z4 := Tryd.sizeOf4
  v4 := Tryd.zeroValue4
  t5 := Tryd.underlying5
  a5 := Tryd.isAgg5
  z5 := Tryd.sizeOf5
  v5 := Tryd.zeroValue5
  t9 := Tryd.underlying9
  a9 := Tryd.isAgg9
  z9 := Tryd.sizeOf9
  v9 := Tryd.zeroValue9
  t20 := Tryd.underlying20
  a20 := Tryd.isAgg20
  z20 := Tryd.sizeOf20
  v20 := Tryd.zeroValue20
  t21 := Tryd.underlying21
  a21 := Tryd.isAgg21
  z21 := Tryd.sizeOf21
  v21 := Tryd.zeroValue21
  t37 := Tryd.underlying24
  a37 := Tryd.isAgg24
  z37 := Tryd.sizeOf24
  v37 := Tryd.zeroValue24
  t46 := Tryd.underlying92
  a46 := Tryd.isAgg92
  z46 := Tryd.sizeOf92
  v46 := Tryd.zeroValue92
  t51 := Tryd.underlying99
  a51 := Tryd.isAgg99
  z51 := Tryd.sizeOf99
  v51 := Tryd.zeroValue99
  t53 := Tryd.underlying83
  a53 := Tryd.isAgg83
  z53 := Tryd.sizeOf83
  v53 := Tryd.zeroValue83
  t75 := Tryd.underlying54
  a75 := Tryd.isAgg54
  z75 := Tryd.sizeOf54
  v75 := Tryd.zeroValue54
  t76 := Tryd.underlying55
  a76 := Tryd.isAgg55
  z76 := Tryd.sizeOf55
  v76 := Tryd.zeroValue55
  t85 := Tryd.underlying77
  a85 := Tryd.isAgg77
  z85 := Tryd.sizeOf77
  v85 := Tryd.zeroValue77
  t127 := Tryd.underlying66
  a127 := Tryd.isAgg66
  z127 := Tryd.sizeOf66
  v127 := Tryd.zeroValue66
  t143 := Tryd.underlying108
  a143 := Tryd.isAgg108
  z143 := Tryd.sizeOf108
  v143 := Tryd.zeroValue108
  t145 := Tryd.underlying110
  a145 := Tryd.isAgg110
  z145 := Tryd.sizeOf110
  v145 := Tryd.zeroValue110
  t167 := Tryd.underlying76
  a167 := Tryd.isAgg76
  z167 := Tryd.sizeOf76
  v167 := Tryd.zeroValue76
  t168 := Tryd.underlying79
  a168 := Tryd.isAgg79
  z168 := Tryd.sizeOf79
  v168 := Tryd.zeroValue79
  t171 := Tryd.underlying82
  a171 := Tryd.isAgg82
  z171 := Tryd.sizeOf82
  v171 := Tryd.zeroValue82
  t173 := Tryd.underlying86
  a173 := Tryd.isAgg86
  z173 := Tryd.sizeOf86
  v173 := Tryd.zeroValue86
  t175 := Tryd.underlying90
  a175 := Tryd.isAgg90
  z175 := Tryd.sizeOf90
  v175 := Tryd.zeroValue90
  t210 := Tryd.underlying94
  a210 := Tryd.isAgg94
  z210 := Tryd.sizeOf94
  v210 := Tryd.zeroValue94
  t212 := Tryd.underlying98
  a212 := Tryd.isAgg98
  z212 := Tryd.sizeOf98
  v212 := Tryd.zeroValue98
  t213 := Tryd.underlying100
  a213 := Tryd.isAgg100
  z213 := Tryd.sizeOf100
  t232 := Tryd.underlying114
  a232 := Tryd.isAgg114
  z232 := Tryd.sizeOf114
  v232 := Tryd.zeroValue114
  t233 := Tryd.underlying115
  a233 := Tryd.isAgg115
  z233 := Tryd.sizeOf115
  v233 := Tryd.zeroValue115
  g15 := by kernel_rfl
  g16 := by kernel_rfl
  g17 := by kernel_rfl
  g18 := by kernel_rfl
  g19 := by kernel_rfl
  t80 := Tryd.underlying61
  a80 := Tryd.isAgg61
  z80 := Tryd.sizeOf61
  v80 := Tryd.zeroValue61
  i0 := by kernel_rfl
  i2 := by kernel_rfl
  i3 := by kernel_rfl
  i4 := by kernel_rfl
  i5 := by kernel_rfl
  i9 := by kernel_rfl
  i20 := by kernel_rfl
  i21 := by kernel_rfl
  i37 := by kernel_rfl
  i46 := by kernel_rfl
  i51 := by kernel_rfl
  i53 := by kernel_rfl
  i75 := by kernel_rfl
  i76 := by kernel_rfl
  i80 := by kernel_rfl
  i85 := by kernel_rfl
  i127 := by kernel_rfl
  i143 := by kernel_rfl
  i145 := by kernel_rfl
  i167 := by kernel_rfl
  i168 := by kernel_rfl
  i171 := by kernel_rfl
  i173 := by kernel_rfl
  i175 := by kernel_rfl
  i210 := by kernel_rfl
  i212 := by kernel_rfl
  i232 := by kernel_rfl
  i233 := by kernel_rfl
  m15 := by kernel_rfl
  m16 := by kernel_rfl
  m17 := by kernel_rfl
  m18 := by kernel_rfl
  m19 := by kernel_rfl
  c0 := by kernel_rfl
  c2 := by kernel_rfl
  c3 := by kernel_rfl
  c4 := by kernel_rfl
  c5 := by kernel_rfl
  c9 := by kernel_rfl
  c20 := by kernel_rfl
  c21 := by kernel_rfl
  c37 := by kernel_rfl
  c46 := by kernel_rfl
  c51 := by kernel_rfl
  c53 := by kernel_rfl
  c75 := by kernel_rfl
  c76 := by kernel_rfl
  c80 := by kernel_rfl
  c85 := by kernel_rfl
  c127 := by kernel_rfl
  c143 := by kernel_rfl
  c145 := by kernel_rfl
  c167 := by kernel_rfl
  c168 := by kernel_rfl
  c171 := by kernel_rfl
  c173 := by kernel_rfl
  c175 := by kernel_rfl
  c210 := by kernel_rfl
  c212 := by kernel_rfl
  c213 := by kernel_rfl
  c232 := by kernel_rfl
  c233 := by kernel_rfl }
open Go.RowKit in
/-- strconv.Atoi, AT EVERY STRING THAT SPELLS AN int ('Lib.atoiAll .. = .ok v'; of whatever length: leading zeros count): v, AND NO ERROR. The world: as it was, or with the one new row that '[]byte(..)' lays. (LAID: no walk: one application.) -/
theorem Tryd.strconv_Atoi_ok (s : ByteArray) (hmax : s.size ≤ 9223372036854775806) (v : Int) (h : Lib.atoiAll s.data.toList = .ok v) (w : World) :
    Calls Tryd.prog 28 #[.string s] w fun e w' => e = .returned (.tuple #[.int .i64 v, .nilIface]) ∧ (w' = w ∨ ∃ t, w' = Lib.bytesWorld w 5 t) := Any.strconv_Atoi_ok Tryd.laysC172 s hmax v h w
open Go.RowKit in
/-- strconv.Atoi, AT EVERY NUMERAL THAT NO int HOLDS ('.range'): THE GREATEST OR THE LEAST int, BY THE SIGN ('Lib.atoiSat'), AND AN ERROR THAT IS NOT nil: a *NumError in a new block N: {Func: "Atoi", Num: s's bytes, Err: what the variable ErrRange holds}. Of what was there nothing has turned. (LAID: no walk: one application.) -/
theorem Tryd.strconv_Atoi_range (s : ByteArray) (hlim : s.size ≤ 281474976710656) (h : Lib.atoiAll s.data.toList = .range) (ev : Value) (w : World) (hv : w.cell? ⟨2, 0, none⟩ = some ev) (hev : ev = .nilIface ∨ ∃ te pe, ev = .iface te pe) :
    Calls Tryd.prog 28 #[.string s] w fun e w' => ∃ N, e = .returned (.tuple #[.int .i64 (Lib.atoiSat s.data.toList), .iface 79 (.pointer (some ⟨N, 0, none⟩))]) ∧ w.heap.size ≤ N ∧ w'.heap[N]? = some (.cells #[.string ⟨#[65, 116, 111, 105]⟩, .string s, ev] 94 (0, 0)) ∧ Below w.heap.size w w' := Any.strconv_Atoi_range Tryd.laysC172 s hlim h ev w hv hev
def Tryd.lays99_ren : Go.Shelf.Ren := ⟨fun | 99 => 30 | 206 => 38 | n => n, fun | 9 => 9 | 4 => 4 | 3 => 3 | n => n, fun | n => n⟩
theorem Tryd.lays99 : Go.Proofs.Lays.n99 Tryd.prog Tryd.lays99_ren := {
  mixed := by kernel_rfl
  f99 := Tryd.func30.trans (congrArg some (by kernel_rfl))
  f206 := Tryd.func38.trans (congrArg some (by kernel_rfl))
  t3 := Tryd.underlying3
  a3 := Tryd.isAgg3
  z3 := Tryd.sizeOf3
  v3 := Tryd.zeroValue3
  t4 := Tryd.underlying4
  a4 := Tryd.isAgg4
  z4 := Tryd.sizeOf4
  v4 := Tryd.zeroValue4
  t9 := Tryd.underlying9
  a9 := Tryd.isAgg9
  z9 := Tryd.sizeOf9
  v9 := Tryd.zeroValue9 }
open Go.RowKit Go.Lib in
/-- strings.HasPrefix: "HasPrefix reports whether the string s begins with prefix.": IT RETURNS 'Lib.hasPrefix s prefix'; the world is as it was. (LAID: no walk: one application.) -/
theorem Tryd.strings_HasPrefix (s p : ByteArray) (w : World) :
    Calls Tryd.prog 30 #[.string s, .string p] w fun e w' => e = .returned (.bool (Lib.hasPrefix s.data.toList p.data.toList)) ∧ w' = w := Any.strings_HasPrefix Tryd.lays99 s p w
def Tryd.lays155_ren : Go.Shelf.Ren := ⟨fun | 155 => 21 | 154 => 35 | 138 => 42 | 165 => 43 | 143 => 44 | 166 => 19 | 197 => 45 | 169 => 24 | 195 => 55 | 218 => 56 | 240 => 33 | 241 => 57 | 219 => 58 | 260 => 59 | 276 => 40 | 277 => 68 | 217 => 69 | 225 => 70 | 224 => 71 | 267 => 72 | 266 => 77 | 314 => 78 | n => n, fun | 9 => 9 | 3 => 3 | 4 => 4 | 72 => 51 | 0 => 0 | 76 => 55 | 105 => 74 | 21 => 21 | 5 => 5 | 70 => 49 | 20 => 20 | 37 => 24 | 75 => 54 | 127 => 66 | 164 => 69 | 46 => 92 | 119 => 103 | 139 => 106 | 138 => 105 | 146 => 112 | 51 => 99 | 80 => 61 | n => n, fun | 1 => 4 | 3 => 5 | 4 => 6 | n => n⟩
theorem Tryd.lays155 : Go.Proofs.Lays.n155 Tryd.prog Tryd.lays155_ren := {
  mixed := by kernel_rfl
  f138 := Tryd.func42.trans (congrArg some (by kernel_rfl))
  f143 := Tryd.func44.trans (congrArg some (by kernel_rfl))
  f154 := Tryd.func35.trans (congrArg some (by kernel_rfl))
  f155 := Tryd.func21.trans (congrArg some (by kernel_rfl))
  f165 := Tryd.func43.trans (congrArg some (by kernel_rfl))
  f166 := Tryd.func19.trans (congrArg some (by kernel_rfl))
  f169 := Tryd.func24.trans (congrArg some (by kernel_rfl))
  f195 := Tryd.func55.trans (congrArg some (by kernel_rfl))
  f197 := Tryd.func45.trans (congrArg some (by kernel_rfl))
  f217 := Tryd.func69.trans (congrArg some (by kernel_rfl))
  f218 := Tryd.func56.trans (congrArg some (by kernel_rfl))
  f219 := Tryd.func58.trans (congrArg some (by kernel_rfl))
  f224 := Tryd.func71.trans (congrArg some (by kernel_rfl))
  f225 := Tryd.func70.trans (congrArg some (by kernel_rfl))
  f240 := Tryd.func33.trans (congrArg some (by kernel_rfl))
  f241 := Tryd.func57.trans (congrArg some (by kernel_rfl))
  f260 := Tryd.func59.trans (congrArg some (by kernel_rfl))
  f266 := Tryd.func77.trans (congrArg some (by kernel_rfl))
  f267 := Tryd.func72.trans (congrArg some (by kernel_rfl))
  f276 := Tryd.func40.trans (congrArg some (by kernel_rfl))
  f277 := Tryd.func68.trans (congrArg some (by kernel_rfl))
  f314 := Tryd.func78.trans (congrArg some (by kernel_rfl))
  t0 := Tryd.underlying0
  a0 := Tryd.isAgg0
  z0 := Tryd.sizeOf0
  v0 := Tryd.zeroValue0
  t3 := Tryd.underlying3
  a3 := Tryd.isAgg3
  z3 := Tryd.sizeOf3
  v3 := Tryd.zeroValue3
  t4 := Tryd.underlying4
  a4 := Tryd.isAgg4
  z4 := Tryd.sizeOf4
  v4 := Tryd.zeroValue4
  t5 := Tryd.underlying5
  a5 := Tryd.isAgg5
  z5 := Tryd.sizeOf5
  v5 := Tryd.zeroValue5
  t9 := Tryd.underlying9
  a9 := Tryd.isAgg9
  z9 := Tryd.sizeOf9
  v9 := Tryd.zeroValue9
  t20 := Tryd.underlying20
  a20 := Tryd.isAgg20
  z20 := Tryd.sizeOf20
  v20 := Tryd.zeroValue20
  t21 := Tryd.underlying21
  a21 := Tryd.isAgg21
  z21 := Tryd.sizeOf21
  v21 := Tryd.zeroValue21
  t37 := Tryd.underlying24
  a37 := Tryd.isAgg24
  z37 := Tryd.sizeOf24
  v37 := Tryd.zeroValue24
  t46 := Tryd.underlying92
  a46 := Tryd.isAgg92
  z46 := Tryd.sizeOf92
  v46 := Tryd.zeroValue92
  t51 := Tryd.underlying99
  a51 := Tryd.isAgg99
  z51 := Tryd.sizeOf99
  v51 := Tryd.zeroValue99
  t70 := Tryd.underlying49
  a70 := Tryd.isAgg49
  z70 := Tryd.sizeOf49
  v70 := Tryd.zeroValue49
  t72 := Tryd.underlying51
  a72 := Tryd.isAgg51
  z72 := Tryd.sizeOf51
  v72 := Tryd.zeroValue51
  t75 := Tryd.underlying54
  a75 := Tryd.isAgg54
  z75 := Tryd.sizeOf54
  v75 := Tryd.zeroValue54
  t76 := Tryd.underlying55
  a76 := Tryd.isAgg55
  z76 := Tryd.sizeOf55
  v76 := Tryd.zeroValue55
  t105 := Tryd.underlying74
  a105 := Tryd.isAgg74
  z105 := Tryd.sizeOf74
  v105 := Tryd.zeroValue74
  t119 := Tryd.underlying103
  a119 := Tryd.isAgg103
  z119 := Tryd.sizeOf103
  t127 := Tryd.underlying66
  a127 := Tryd.isAgg66
  z127 := Tryd.sizeOf66
  v127 := Tryd.zeroValue66
  t138 := Tryd.underlying105
  a138 := Tryd.isAgg105
  z138 := Tryd.sizeOf105
  v138 := Tryd.zeroValue105
  t139 := Tryd.underlying106
  a139 := Tryd.isAgg106
  z139 := Tryd.sizeOf106
  v139 := Tryd.zeroValue106
  t146 := Tryd.underlying112
  a146 := Tryd.isAgg112
  z146 := Tryd.sizeOf112
  v146 := Tryd.zeroValue112
  t164 := Tryd.underlying69
  a164 := Tryd.isAgg69
  z164 := Tryd.sizeOf69
  v164 := Tryd.zeroValue69
  g1 := by kernel_rfl
  g3 := by kernel_rfl
  g4 := by kernel_rfl }
theorem Tryd.Builder_Extra_155 : Builder.Extra Tryd.prog Tryd.lays155_ren := {
  sizeBuilder := by kernel_rfl
  liesBuilder := by kernel_rfl
  t5 := Tryd.underlying5
  a5 := Tryd.isAgg5
  z5 := Tryd.sizeOf5
  v5 := Tryd.zeroValue5
  infoByte := by kernel_rfl
  cellsByte := by kernel_rfl
  sizeByte := by kernel_rfl
  neB5 := by decide }
open Go.RowKit Go.Lib in
/-- strings.ReplaceAll: "ReplaceAll returns a copy of the string s with all non-overlapping instances of old replaced by new.": AT AN old THAT IS NOT EMPTY: 'Lib.replaceAll s old new'. (LAID: no walk: one application.) -/
theorem Tryd.strings_ReplaceAll (s old new : ByteArray) (m : Int) (w : World) (hs : s.size < 4294967281) (hm : w.cell? ⟨4, 0, none⟩ = some (.int .i64 m)) (h1 : 1 ≤ old.size) (hlen : s.size + Lib.countB s old * new.size ≤ 140737488355328) :
    Calls Tryd.prog 21 #[.string s, .string old, .string new] w fun e w' =>
      e = .returned (.string ⟨(Lib.replaceAll s.data.toList old.data.toList new.data.toList).toArray⟩) ∧ Below w.heap.size w w' := Any.strings_ReplaceAll Tryd.lays155 Tryd.Builder_Extra_155 s old new m w hs hm h1 hlen
def Tryd.laysM155_ren : Go.Shelf.Ren := ⟨fun | 155 => 21 | 154 => 35 | 138 => 42 | 165 => 43 | 143 => 44 | 166 => 19 | 197 => 45 | 169 => 24 | 195 => 55 | 218 => 56 | 240 => 33 | 241 => 57 | 219 => 58 | 260 => 59 | 276 => 40 | 277 => 68 | 217 => 69 | 225 => 70 | 224 => 71 | 267 => 72 | 266 => 77 | 314 => 78 | n => n, fun | 9 => 9 | 3 => 3 | 4 => 4 | 72 => 51 | 0 => 0 | 76 => 55 | 105 => 74 | 21 => 21 | 5 => 5 | 70 => 49 | 20 => 20 | 37 => 24 | 75 => 54 | 127 => 66 | 164 => 69 | 46 => 92 | 119 => 103 | 139 => 106 | 138 => 105 | 146 => 112 | 51 => 99 | 80 => 61 | n => n, fun | 1 => 4 | 3 => 5 | 4 => 6 | n => n⟩
theorem Tryd.laysM155 : Go.Proofs.LaysM.n155 Tryd.prog Tryd.laysM155_ren := {
  mixed := by kernel_rfl
  f138 := Tryd.func42.trans (congrArg some (by kernel_rfl))
  f143 := Tryd.func44.trans (congrArg some (by kernel_rfl))
  f154 := Tryd.func35.trans (congrArg some (by kernel_rfl))
  f155 := Tryd.func21.trans (congrArg some (by kernel_rfl))
  f165 := Tryd.func43.trans (congrArg some (by kernel_rfl))
  f166 := Tryd.func19.trans (congrArg some (by kernel_rfl))
  f169 := Tryd.func24.trans (congrArg some (by kernel_rfl))
  f195 := Tryd.func55.trans (congrArg some (by kernel_rfl))
  f197 := Tryd.func45.trans (congrArg some (by kernel_rfl))
  f217 := Tryd.func69.trans (congrArg some (by kernel_rfl))
  f218 := Tryd.func56.trans (congrArg some (by kernel_rfl))
  f219 := Tryd.func58.trans (congrArg some (by kernel_rfl))
  f224 := Tryd.func71.trans (congrArg some (by kernel_rfl))
  f225 := Tryd.func70.trans (congrArg some (by kernel_rfl))
  f240 := Tryd.func33.trans (congrArg some (by kernel_rfl))
  f241 := Tryd.func57.trans (congrArg some (by kernel_rfl))
  f260 := Tryd.func59.trans (congrArg some (by kernel_rfl))
  f266 := Tryd.func77.trans (congrArg some (by kernel_rfl))
  f267 := Tryd.func72.trans (congrArg some (by kernel_rfl))
  f276 := Tryd.func40.trans (congrArg some (by kernel_rfl))
  f277 := Tryd.func68.trans (congrArg some (by kernel_rfl))
  f314 := Tryd.func78.trans (congrArg some (by kernel_rfl))
  t0 := Tryd.underlying0
  a0 := Tryd.isAgg0
  z0 := Tryd.sizeOf0
  v0 := Tryd.zeroValue0
  t3 := Tryd.underlying3
  a3 := Tryd.isAgg3
  z3 := Tryd.sizeOf3
  v3 := Tryd.zeroValue3
  t4 := Tryd.underlying4
  a4 := Tryd.isAgg4
  z4 := Tryd.sizeOf4
  v4 := Tryd.zeroValue4
  t5 := Tryd.underlying5
  a5 := Tryd.isAgg5
  z5 := Tryd.sizeOf5
  v5 := Tryd.zeroValue5
  t9 := Tryd.underlying9
  a9 := Tryd.isAgg9
  z9 := Tryd.sizeOf9
  v9 := Tryd.zeroValue9
  t20 := Tryd.underlying20
  a20 := Tryd.isAgg20
  z20 := Tryd.sizeOf20
  v20 := Tryd.zeroValue20
  t21 := Tryd.underlying21
  a21 := Tryd.isAgg21
  z21 := Tryd.sizeOf21
  v21 := Tryd.zeroValue21
  t37 := Tryd.underlying24
  a37 := Tryd.isAgg24
  z37 := Tryd.sizeOf24
  v37 := Tryd.zeroValue24
  t46 := Tryd.underlying92
  a46 := Tryd.isAgg92
  z46 := Tryd.sizeOf92
  v46 := Tryd.zeroValue92
  t51 := Tryd.underlying99
  a51 := Tryd.isAgg99
  z51 := Tryd.sizeOf99
  v51 := Tryd.zeroValue99
  t70 := Tryd.underlying49
  a70 := Tryd.isAgg49
  z70 := Tryd.sizeOf49
  v70 := Tryd.zeroValue49
  t72 := Tryd.underlying51
  a72 := Tryd.isAgg51
  z72 := Tryd.sizeOf51
  v72 := Tryd.zeroValue51
  t75 := Tryd.underlying54
  a75 := Tryd.isAgg54
  z75 := Tryd.sizeOf54
  v75 := Tryd.zeroValue54
  t76 := Tryd.underlying55
  a76 := Tryd.isAgg55
  z76 := Tryd.sizeOf55
  v76 := Tryd.zeroValue55
  t105 := Tryd.underlying74
  a105 := Tryd.isAgg74
  z105 := Tryd.sizeOf74
  v105 := Tryd.zeroValue74
  t119 := Tryd.underlying103
  a119 := Tryd.isAgg103
  z119 := Tryd.sizeOf103
  t127 := Tryd.underlying66
  a127 := Tryd.isAgg66
  z127 := Tryd.sizeOf66
  v127 := Tryd.zeroValue66
  t138 := Tryd.underlying105
  a138 := Tryd.isAgg105
  z138 := Tryd.sizeOf105
  v138 := Tryd.zeroValue105
  t139 := Tryd.underlying106
  a139 := Tryd.isAgg106
  z139 := Tryd.sizeOf106
  v139 := Tryd.zeroValue106
  t146 := Tryd.underlying112
  a146 := Tryd.isAgg112
  z146 := Tryd.sizeOf112
  v146 := Tryd.zeroValue112
  t164 := Tryd.underlying69
  a164 := Tryd.isAgg69
  z164 := Tryd.sizeOf69
  v164 := Tryd.zeroValue69
  g1 := by kernel_rfl
  g3 := by kernel_rfl
  g4 := by kernel_rfl
  t80 := Tryd.underlying61
  a80 := Tryd.isAgg61
  z80 := Tryd.sizeOf61
  v80 := Tryd.zeroValue61
  i0 := by kernel_rfl
  i3 := by kernel_rfl
  i4 := by kernel_rfl
  i5 := by kernel_rfl
  i9 := by kernel_rfl
  i20 := by kernel_rfl
  i21 := by kernel_rfl
  i37 := by kernel_rfl
  i46 := by kernel_rfl
  i51 := by kernel_rfl
  i70 := by kernel_rfl
  i72 := by kernel_rfl
  i75 := by kernel_rfl
  i76 := by kernel_rfl
  i80 := by kernel_rfl
  i105 := by kernel_rfl
  i127 := by kernel_rfl
  i138 := by kernel_rfl
  i139 := by kernel_rfl
  i146 := by kernel_rfl
  i164 := by kernel_rfl
  m1 := by kernel_rfl
  s1_3 := fun w h => Go.Proofs.cell_of_shapedOpen_int (zero := #[.int .i64 0]) (t := 3) h (of_decide_eq_true (by kernel_rfl)) (by kernel_rfl) rfl (by kernel_rfl) (by kernel_rfl) Tryd.underlying3
  m3 := by kernel_rfl
  m4 := by kernel_rfl }
end Go.Proofs

namespace Go.Proofs.YtdlcfkkkjklanaaDoor.Lx
open Go.RowKit V Go.Proofs.YtdlcfkkkjklanaaDoor.Nm Go.Proofs.YtdlcfkkkjklanaaDoor.Pk
set_option linter.unusedVariables false
set_option linter.unusedSimpArgs false

def noTk : Tk := ⟨0, ⟨#[]⟩, 0⟩
/-- What stands behind a quote: its bytes, two quotes for one, and where it ends. -/
def textG : List UInt8 → List UInt8 → Nat → Tk × Nat × Int
  | [], _, _ => (noTk, 0, 7)
  | [c], acc, i => if c = 39 then (⟨3, ⟨acc.toArray⟩, 0⟩, i + 1, 0) else (noTk, 0, 7)
  | c :: d :: r, acc, i => if c = 39 then (if d = 39 then textG r (acc ++ [39]) (i + 2) else (⟨3, ⟨acc.toArray⟩, 0⟩, i + 1, 0)) else textG (d :: r) (acc ++ [c]) (i + 1)
def afterL (l : List UInt8) : Bool := match l.dropWhile digitB with | c :: _ => letterB c | [] => false
def numL (l : List UInt8) : Tk × Nat × Int := match Lib.atoiAll (l.takeWhile digitB) with | .ok v => (⟨2, ⟨#[]⟩, v⟩, (l.takeWhile digitB).length, 0) | _ => (noTk, 0, 5)
def markL (l : List UInt8) : Tk × Nat × Int := match marksB.find? (fun m => m.isPrefixOf l) with | some m => (⟨4, ⟨m.toArray⟩, 0⟩, m.length, 0) | none => (noTk, 0, 6)
/-- The token at the head, how many bytes it has, what is wrong. -/
def oneF (l : List UInt8) : Tk × Nat × Int :=
  if letterB (l.getD 0 0) then (⟨1, ⟨(l.takeWhile wordB).toArray⟩, 0⟩, (l.takeWhile wordB).length, 0)
  else if digitB (l.getD 0 0) then (if afterL l then (noTk, 0, 6) else numL l)
  else if l.getD 0 0 = 39 then textG (l.drop 1) [] 1
  else markL l
def tokD (r : Tk × Nat × Int) : D := .tup [.agg (cT r.1), .v (.int .i64 (r.2.1 : Nat)), .v (.int .i64 r.2.2)]
/-- The variable of the error that tells of a number that is too great. -/
def RangeVar (G : List (Nat × List Value)) : Prop := ∃ ev, (2, [ev]) ∈ G ∧ (ev = .nilIface ∨ ∃ te pe, ev = .iface te pe)

theorem frB {w w' : World} (h : Below w.heap.size w w') : Fr w (bks []) w' (bks []) := ⟨h.os, h.tape, h.output, h.size, fun b hb _ => ⟨h.block b hb, by simp [bks]⟩⟩
theorem own0 (w : World) (X : Nat → Prop) : Own w (live X []) [] := ⟨fun B hB => by simp at hB, by simp [bks]⟩
theorem pairs {w : World} {L : Nat → Prop} (u v : Value) : Rep w L (.tup [.v u, .v v]) (.tuple #[u, v]) := .tup _ [u, v] rfl fun i h h' => by
  match i, h, h' with
  | 0, _, _ => exact .v _
  | 1, _, _ => exact .v _
theorem digits_no : ∀ (l : List UInt8) (a : Nat), (∀ c ∈ l, digitB c = true) → (∃ u, Lib.parseUint10 a l = .ok u) ∨ Lib.parseUint10 a l = .range
  | [], a, _ => .inl ⟨a, rfl⟩
  | c :: r, a, hl => by
    have hc := hl c List.mem_cons_self
    simp only [digitB, decide_eq_true_eq] at hc
    rw [Lib.parseUint10, if_pos hc]
    split
    · exact .inr rfl
    · split
      · exact .inr rfl
      · exact digits_no r _ (fun d hd => hl d (List.mem_cons_of_mem _ hd))
theorem atoi_no {l : List UInt8} (hl : ∀ c ∈ l, digitB c = true) (h0 : l ≠ []) : (∃ v, Lib.atoiAll l = .ok v) ∨ Lib.atoiAll l = .range := by
  match l, h0 with
  | c :: r, _ =>
    have hc := hl c List.mem_cons_self
    simp only [digitB, decide_eq_true_eq] at hc
    have hm : Lib.parseMag (c :: r) = Lib.parseUint10 0 (c :: r) := by unfold Lib.parseMag; rw [if_neg (by simp)]
    unfold Lib.atoiAll
    simp only
    rw [if_neg (by omega), hm]
    rcases digits_no (c :: r) 0 hl with ⟨u, hu⟩ | hu
    · rw [hu]
      simp only
      split
      · exact .inr rfl
      · split
        · exact .inr rfl
        · exact .inl ⟨_, rfl⟩
    · rw [hu]; exact .inr rfl
theorem arg1 {G : List (Nat × List Value)} {X : Nat → Prop} {w : World} {x : Value} {us : List Value} (hp : Pre G X w [] [.v x] us) : us = [x] := by
  obtain ⟨a1, a2⟩ := hp.args
  match us, a1, a2 with
  | [u], _, a2 => have e : u = _ := (a2 0 Nat.zero_lt_one Nat.zero_lt_one).v_eq; rw [e]
/-- strconv.Atoi, of digits. -/
theorem atoi_vc {G : List (Nat × List Value)} (s : ByteArray) (hs : s.size ≤ 1000000) (hd : ∀ c ∈ s.data.toList, digitB c = true) (h0 : s.data.toList ≠ []) (hr : Lib.atoiAll s.data.toList = .range → RangeVar G) :
    VC Tryd.prog G 28 [.v (.string s)] [] (fun r S => S = [] ∧ ((∃ v, Lib.atoiAll s.data.toList = .ok v ∧ r = .tup [.v (.int .i64 v), .v .nilIface]) ∨ (Lib.atoiAll s.data.toList = .range ∧ ∃ v te p, r = .tup [.v (.int .i64 v), .v (.iface te p)]))) := fun X w us hp => by
  have hu : us = [.string s] := arg1 hp
  subst hu
  rcases atoi_no hd h0 with ⟨v, ha⟩ | ha
  · refine (Tryd.strconv_Atoi_ok s (by omega) v ha w).mono fun e w' ⟨h1, h2⟩ => ⟨_, _, [], h1, ⟨rfl, .inl ⟨v, ha, rfl⟩⟩, own0 _ _, pairs _ _, frB ?_⟩
    rcases h2 with rfl | ⟨t, rfl⟩
    · exact Below.refl _ _
    · exact Lib.bytesWorld_below _ _ _
  · obtain ⟨ev, hg, hev⟩ := hr ha
    refine (Tryd.strconv_Atoi_range s (by omega) ha ev w (tabCell.cell ((hp.tab _ hg).2 0 _ rfl) (by rcases hev with rfl | ⟨te, pe, rfl⟩ <;> rfl)) hev).mono fun e w' ⟨N, h1, _, _, h2⟩ => ⟨_, _, [], h1, ⟨rfl, .inr ⟨ha, _, _, _, rfl⟩⟩, own0 _ _, pairs _ _, frB h2⟩
variable {G : List (Nat × List Value)}
set_option maxHeartbeats 4000000 in
set_option maxRecDepth 100000 in
theorem one1_vp (c : UInt8) : VP Tryd.prog G 26 [.v (.int .u8 ((c).toNat : Int))] (.v (.bool (wordB c))) := by
  refine VC.body Tryd.func26 rfl Tryd.ntmps26 (Nat.le_of_ble_eq_true rfl) fun X0 w0 S00 => ?_
  refine CD.seq ?_
  refine CD.region ?_
  refine OD.still (wants_plain rfl) rfl (still_as rfl opd_const) ?_
  refine OD.wk (Wk.as_ (n := 9) (l' := [(0, _)]) (S' := []) rfl rfl ⟨lk, trivial⟩) ?_
  refine OD.nil ?_
  refine CD.seq ?_
  refine CD.region ?_
  refine OD.still (wants_plain rfl) rfl (still_mv rfl ot) ?_
  refine OD.callP (wants_plain rfl) rfl rfl rfl Tryd.call25 (letter_vp c) ⟨ot, trivial⟩ ?_
  refine OD.still (wants_plain rfl) rfl (still_mv rfl ot) ?_
  refine OD.split (t := 5) lk (fun hg5 => ?_) (fun hg5 => ?_)
  · have hg5' := hg5; (try simp only [decide_eq_true_eq, decide_eq_false_iff_not, beq_iff_eq, bne_iff_ne, Bool.not_eq_true', Bool.not_eq_false', Bool.not_eq_true, Bool.not_eq_false, beq_eq_false_iff_ne, ne_eq, bne_eq_false_iff_eq, Bool.and_eq_true, Bool.or_eq_true, Bool.not_not] at hg5')
    refine OD.skip (wants_F rfl rfl rfl lk (by first | rfl | assumption)) rfl ?_
    refine OD.skip (wants_F rfl rfl rfl lk (by first | rfl | assumption)) rfl ?_
    refine OD.still (wants_plain rfl) rfl (still_pickT rfl ot (by first | rfl | assumption) opd_const) ?_
    refine OD.still (wants_plain rfl) rfl (still_as rfl ot) ?_
    refine OD.wk (Wk.as_ (n := 9) (l' := [(2, _)]) (S' := []) rfl rfl ⟨lk, trivial⟩) ?_
    refine OD.nil ?_
    refine CD.ret ?_
    refine ⟨.inr rfl, _, [], List.nil_sublist _, ret_one Tryd.results26 (res_tmp (Nat.le_of_ble_eq_true rfl) lk), ?_⟩
    exact ⟨vb (by simp [wordB, *]), rfl⟩
  · have hg5' := hg5; (try simp only [decide_eq_true_eq, decide_eq_false_iff_not, beq_iff_eq, bne_iff_ne, Bool.not_eq_true', Bool.not_eq_false', Bool.not_eq_true, Bool.not_eq_false, beq_eq_false_iff_ne, ne_eq, bne_eq_false_iff_eq, Bool.and_eq_true, Bool.or_eq_true, Bool.not_not] at hg5')
    refine OD.still (wants_T rfl rfl rfl lk (by first | rfl | assumption)) rfl (still_mv rfl ot) ?_
    refine OD.callP (wants_T rfl rfl rfl lk (by first | rfl | assumption)) rfl rfl rfl Tryd.call27 (digit_vp c) ⟨ot, trivial⟩ ?_
    refine OD.still (wants_plain rfl) rfl (still_pickF rfl ot (by first | rfl | assumption) ot) ?_
    refine OD.still (wants_plain rfl) rfl (still_as rfl ot) ?_
    refine OD.wk (Wk.as_ (n := 9) (l' := [(2, _)]) (S' := []) rfl rfl ⟨lk, trivial⟩) ?_
    refine OD.nil ?_
    refine CD.ret ?_
    refine ⟨.inr rfl, _, [], List.nil_sublist _, ret_one Tryd.results26 (res_tmp (Nat.le_of_ble_eq_true rfl) lk), ?_⟩
    exact ⟨vb (by simp [wordB, *]), rfl⟩

theorem text_step {l acc : List UInt8} {i : Nat} (hi : i < l.length) (hc : l[i] ≠ 39) : textG (l.drop i) acc i = textG (l.drop (i + 1)) (acc ++ [l[i]]) (i + 1) := by
  rw [List.drop_eq_getElem_cons hi]
  cases hr : l.drop (i + 1) with
  | nil => exact if_neg hc
  | cons d r => exact if_neg hc
theorem text_two {l acc : List UInt8} {i : Nat} (hi : i + 1 < l.length) (hc : l[i] = 39) (hd : l[i + 1] = 39) : textG (l.drop i) acc i = textG (l.drop (i + 2)) (acc ++ [l[i + 1]]) (i + 2) := by
  rw [List.drop_eq_getElem_cons (by omega), List.drop_eq_getElem_cons hi, textG, if_pos hc, if_pos hd, hd]
theorem text_end {l acc : List UInt8} {i : Nat} (hi : i < l.length) (hc : l[i] = 39) (hd : i + 1 = l.length ∨ ∃ h : i + 1 < l.length, l[i + 1] ≠ 39) : textG (l.drop i) acc i = (⟨3, ⟨acc.toArray⟩, 0⟩, i + 1, 0) := by
  rw [List.drop_eq_getElem_cons hi]
  cases hr : l.drop (i + 1) with
  | nil => rw [textG, if_pos hc]
  | cons d r =>
    rcases hd with hd | ⟨h, hd⟩
    · rw [hd, List.drop_length] at hr; cases hr
    · rw [List.drop_eq_getElem_cons h] at hr
      cases hr
      rw [textG, if_pos hc, if_neg hd]
theorem text_short {l acc : List UInt8} {i : Nat} (hi : l.length ≤ i) : textG (l.drop i) acc i = (noTk, 0, 7) := by
  rw [List.drop_eq_nil_of_le hi]; rfl

theorem info5_Lx1 : (Tryd.prog.info? 5).map (fun i => (i.zero, i.size, i.bytes)) = some (some (.int .u8 0), 1, 1) := by kernel_rfl

theorem places30_Lx1 : ∀ w, ((#[{ name := "Kind", type := 3, offset := 0, embedded := false, tag := "", pkgPath := "", byteOffset := 0 }, { name := "Text", type := 9, offset := 1, embedded := false, tag := "", pkgPath := "", byteOffset := 8 }, { name := "Int", type := 3, offset := 2, embedded := false, tag := "", pkgPath := "", byteOffset := 24 }] : Array Field).mapM fun f => do pure (f.offset, ← sizeOf f.type) : Sem (Array (Nat × Nat))).run Tryd.prog w = .ok #[(0, 1), (1, 1), (2, 1)] w := fun w => by simp [Tryd.sizeOf3, Tryd.sizeOf9]

set_option maxHeartbeats 4000000 in
set_option maxRecDepth 100000 in
theorem text_vp (s : ByteArray) (hs : s.size ≤ 1000000) : VP Tryd.prog G 29 [.v (.string s)] (tokD (textG (s.data.toList.drop 1) [] 1)) := by
  refine VC.body Tryd.func29 rfl Tryd.ntmps29 (Nat.le_of_ble_eq_true rfl) fun X0 w0 S00 => ?_
  have hmx : maxLen = 9223372036854775807 := rfl
  have hsl := str_len s
  refine CD.seq ?_
  refine CD.region ?_
  refine OD.alloc (ds := [_, _, _]) (wants_plain rfl) rfl rfl Tryd.zeroValue30 rfl (fun b2 => ?_)
  refine OD.still (wants_plain rfl) rfl (still_as rfl opd_const) ?_
  refine OD.still (wants_plain rfl) rfl (still_as rfl opd_const) ?_
  refine OD.wk (Wk.as_ (n := 43) (l' := [(0, _), (2, _)]) (S' := [⟨b2, 30, 3, [_, _, _]⟩]) rfl rfl ⟨lk, lk, trivial⟩) ?_
  refine OD.nil ?_
  refine CD.seq ?_
  refine CD.region ?_
  refine OD.still (wants_plain rfl) rfl (still_as rfl opd_const) ?_
  refine OD.wk (Wk.as_ (n := 43) (l' := [(0, _), (2, _), (5, _)]) (S' := (⟨b2, 30, 3, [_, _, _]⟩ :: [])) rfl rfl ⟨lk, lk, lk, trivial⟩) ?_
  refine OD.nil ?_
  refine CD.seq ?_
  refine CD.seq ?_
  refine CD.region ?_
  refine OD.still (wants_plain rfl) rfl (still_as rfl opd_const) ?_
  refine OD.wk (Wk.as_ (n := 43) (l' := [(0, _), (2, _), (5, _), (6, _)]) (S' := (⟨b2, 30, 3, [_, _, _]⟩ :: [])) rfl rfl ⟨lk, lk, lk, lk, trivial⟩) ?_
  refine OD.nil ?_
  refine CD.block ?_
  refine CD.wk (Wk.asS (n := 43) (l' := [(0, .v (.string s)), (2, .v (.pointer (some ⟨b2, 0, none⟩))), (5, .v (.slice none (([])).length (0))), (6, .v (.int .i64 ((1) : Nat)))]) (S' := ((⟨b2, 30, 3, cT noTk⟩ : Blk) :: ([]))) rfl (by repeat (first | exact List.Sublist.refl _ | apply List.Sublist.cons_cons | apply List.Sublist.cons)) ⟨(by (repeat (first | exact look_hit | (apply look_at; focus (first | rfl | (simp; done) | (congr 2; omega) | (apply row_eq; simp; done))) | (apply look_miss; focus rfl))); done), (by (repeat (first | exact look_hit | (apply look_at; focus (first | rfl | (simp; done) | (congr 2; omega) | (apply row_eq; simp; done))) | (apply look_miss; focus rfl))); done), (by (repeat (first | exact look_hit | (apply look_at; focus (first | rfl | (simp; done) | (congr 2; omega) | (apply row_eq; simp; done))) | (apply look_miss; focus rfl))); done), (by (repeat (first | exact look_hit | (apply look_at; focus (first | rfl | (simp; done) | (congr 2; omega) | (apply row_eq; simp; done))) | (apply look_miss; focus rfl))); done), trivial⟩) (CD.loop (fun (gh__ : Nat × List UInt8 × Option Addr × Nat × List Blk) y__ => match gh__ with | (i, acc, adb, cpb, Sb) => (textG (s.data.toList.drop i) acc i = textG (s.data.toList.drop 1) [] 1) ∧ (acc.length ≤ i) ∧ (i ≤ s.size + 1) ∧ (OwnL 5 1 ((acc).flatMap cB) (acc).length adb cpb Sb) ∧ y__ = (⟨43, [(0, .v (.string s)), (2, .v (.pointer (some ⟨b2, 0, none⟩))), (5, .v (.slice adb (acc).length cpb)), (6, .v (.int .i64 (i : Nat)))], ((⟨b2, 30, 3, cT noTk⟩ : Blk) :: Sb)⟩ : St)) (fun (gh__ : Nat × List UInt8 × Option Addr × Nat × List Blk) => match gh__ with | (i, acc, adb, cpb, Sb) => s.size + 1 - i) (1, [], none, 0, []) ⟨rfl, (Nat.zero_le _), (by omega), (OwnL.cast ownL_nil (by first | rfl | simp)), rfl⟩ ?_)
  rintro ⟨i, acc, adb, cpb, Sb⟩ _ ⟨ht, hal, his, hob, rfl⟩
  refine CD.seq ?_
  refine CD.seq ?_
  refine CD.region ?_
  refine OD.still (wants_plain rfl) rfl (still_mv rfl ot) ?_
  refine OD.still (wants_plain rfl) rfl (still_mv rfl ot) ?_
  refine OD.still (wants_plain rfl) rfl (still_slen rfl rfl ot Tryd.runUnderlying9) ?_
  refine OD.still (wants_plain rfl) rfl (still_bin rfl ot ot bin_lss) ?_
  refine OD.wk (Wk.as_ (n := 43) (l' := [(0, _), (2, _), (5, _), (6, _), (10, _)]) (S' := (⟨b2, 30, 3, [_, _, _]⟩ :: Sb)) rfl rfl ⟨lk, lk, lk, lk, lk, trivial⟩) ?_
  refine OD.nil ?_
  refine CD.cond ot (fun hc0 => ?_) (fun hc0 => ?_)
  · have hc0' := hc0
    (try simp only [decide_eq_true_eq, decide_eq_false_iff_not, beq_iff_eq, bne_iff_ne, Bool.not_eq_true', Bool.not_eq_false', Bool.not_eq_true, Bool.not_eq_false, beq_eq_false_iff_ne, ne_eq, bne_eq_false_iff_eq, Bool.and_eq_true, Bool.or_eq_true, Bool.not_not, Bool.and_eq_false_iff, Bool.or_eq_false_iff, Int.not_lt, Int.not_le] at hc0')
    have hlt : i < s.size := by omega
    have hil : i < s.data.toList.length := by omega
    have hgi := byteAt_get hil
    refine CD.skip ?_
    refine CD.seq ?_
    refine CD.block ?_
    refine CD.seq ?_
    refine CD.seq ?_
    refine CD.region ?_
    have hks : i < s.size := by omega
    have hkc : s[i]? = some (byteAt s (i)) := str_at hks
    refine OD.still (wants_plain rfl) rfl (still_mv rfl ot) ?_
    refine OD.still (wants_plain rfl) rfl (still_mv rfl ot) ?_
    refine OD.still (wants_plain rfl) rfl (still_sidx (c := byteAt s i) rfl ot ot Tryd.runUnderlying9 rfl (str_at hlt)) ?_
    refine OD.still (wants_plain rfl) rfl (still_bin rfl ot opd_const bin_eql) ?_
    refine OD.wk (Wk.as_ (n := 43) (l' := [(0, _), (2, _), (5, _), (6, _), (16, _)]) (S' := (⟨b2, 30, 3, [_, _, _]⟩ :: Sb)) rfl rfl ⟨lk, lk, lk, lk, lk, trivial⟩) ?_
    refine OD.nil ?_
    refine CD.cond ot (fun hc1 => ?_) (fun hc1 => ?_)
    · have hc1' := hc1
      (try simp only [decide_eq_true_eq, decide_eq_false_iff_not, beq_iff_eq, bne_iff_ne, Bool.not_eq_true', Bool.not_eq_false', Bool.not_eq_true, Bool.not_eq_false, beq_eq_false_iff_ne, ne_eq, bne_eq_false_iff_eq, Bool.and_eq_true, Bool.or_eq_true, Bool.not_not, Bool.and_eq_false_iff, Bool.or_eq_false_iff, Int.not_lt, Int.not_le] at hc1')
      have hq : byteAt s i = 39 := UInt8.toNat_inj.1 (by simp at hc1; show (byteAt s i).toNat = 39; omega)
      refine CD.seq ?_
      refine CD.seq ?_
      refine CD.region ?_
      refine OD.still (wants_plain rfl) rfl (still_mv rfl ot) ?_
      refine OD.still (wants_plain rfl) rfl (still_bin (r := .int .i64 ((i + 1 : Nat) : Int)) rfl ot opd_const (bin_add (by show IntKind.i64.wrap ((i : Int) + 1) = (i : Int) + 1; exact wrap_i64 (by omega) (by omega)))) ?_
      refine OD.still (wants_plain rfl) rfl (still_mv rfl ot) ?_
      refine OD.still (wants_plain rfl) rfl (still_slen rfl rfl ot Tryd.runUnderlying9) ?_
      refine OD.still (wants_plain rfl) rfl (still_bin rfl ot ot bin_eql) ?_
      refine OD.still (wants_plain rfl) rfl (still_mv rfl ot) ?_
      refine OD.split (t := 22) lk (fun hg22 => ?_) (fun hg22 => ?_)
      · have hg22' := hg22; (try simp only [decide_eq_true_eq, decide_eq_false_iff_not, beq_iff_eq, bne_iff_ne, Bool.not_eq_true', Bool.not_eq_false', Bool.not_eq_true, Bool.not_eq_false, beq_eq_false_iff_ne, ne_eq, bne_eq_false_iff_eq, Bool.and_eq_true, Bool.or_eq_true, Bool.not_not] at hg22')
        refine OD.skip (wants_F rfl rfl rfl lk (by first | rfl | assumption)) rfl ?_
        refine OD.skip (wants_F rfl rfl rfl lk (by first | rfl | assumption)) rfl ?_
        refine OD.skip (wants_F rfl rfl rfl lk (by first | rfl | assumption)) rfl ?_
        refine OD.skip (wants_F rfl rfl rfl lk (by first | rfl | assumption)) rfl ?_
        refine OD.skip (wants_F rfl rfl rfl lk (by first | rfl | assumption)) rfl ?_
        refine OD.still (wants_plain rfl) rfl (still_pickT rfl ot (by first | rfl | assumption) opd_const) ?_
        refine OD.wk (Wk.as_ (n := 43) (l' := [(0, _), (2, _), (5, _), (6, _), (28, _)]) (S' := (⟨b2, 30, 3, [_, _, _]⟩ :: Sb)) rfl rfl ⟨lk, lk, lk, lk, lk, trivial⟩) ?_
        refine OD.nil ?_
        refine CD.condT ot (by first | rfl | assumption) ?_
        have hend : textG (s.data.toList.drop i) acc i = (⟨3, ⟨acc.toArray⟩, 0⟩, i + 1, 0) := text_end hil (by rw [hgi]; exact hq) (by first | (left; simp at *; omega) | (right; refine ⟨by omega, fun e => ?_⟩; rw [byteAt_get] at e; simp [e] at *))
        rw [ht] at hend
        refine CD.seq ?_
        refine CD.region ?_
        refine OD.still (wants_plain rfl) rfl (still_mv rfl ot) ?_
        refine OD.giveL (t := 29) (Sq := Sb) lk hob (fm_len cB_len _) (perm_r11 (A := [_])) ?_
        first | refine OD.still (wants_plain rfl) rfl (still_ofBytes rfl ot Tryd.underlying24 Tryd.underlying5 Tryd.underlying9) ?_ | refine OD.still (wants_plain rfl) rfl (still_ofBytesF rfl ot Tryd.underlying24 Tryd.underlying5 Tryd.underlying9) ?_
        refine OD.still (wants_plain rfl) rfl (still_bld (pl := [(0, _), (1, _)]) (ds := [_, _, _]) rfl Tryd.zeroValue30 Tryd.runUnderlying30 places30_Lx1 ⟨rfl, opd_const, rfl, ot, trivial⟩ rfl rfl) ?_
        refine OD.still (wants_plain rfl) rfl (still_mv rfl ot) ?_
        refine OD.still (wants_plain rfl) rfl (still_bin rfl ot opd_const (bin_add (wrap_i64 (by omega) (by omega)))) ?_
        refine OD.store (k := 0) (cs' := [_, _, _]) (wants_plain rfl) rfl rfl ot rfl rfl ot rfl rfl Tryd.sizeOf30 rfl rfl rfl ?_
        refine OD.still (wants_plain rfl) rfl (still_as rfl ot) ?_
        refine OD.still (wants_plain rfl) rfl (still_as rfl opd_const) ?_
        refine OD.wk (Wk.as_ (n := 43) (l' := [(2, _), (3, _), (4, _)]) (S' := [⟨b2, 30, 3, [_, _, _]⟩]) rfl rfl ⟨lk, lk, lk, trivial⟩) ?_
        refine OD.nil ?_
        refine CD.ret ?_
        refine ⟨.inr rfl, _, [], List.nil_sublist _, ret_three Tryd.results29 (res_cells (k := 0) (ds := [_, _, _]) (Nat.le_of_ble_eq_true rfl) lk rfl rfl Tryd.isAgg30 Tryd.sizeOf30 rfl rfl) (res_tmp (Nat.le_of_ble_eq_true rfl) lk) (res_tmp (Nat.le_of_ble_eq_true rfl) lk), ?_⟩
        first | (rw [hend]; exact ⟨rfl, rfl⟩) | (rw [hshort]; exact ⟨rfl, rfl⟩)
      · have hg22' := hg22; (try simp only [decide_eq_true_eq, decide_eq_false_iff_not, beq_iff_eq, bne_iff_ne, Bool.not_eq_true', Bool.not_eq_false', Bool.not_eq_true, Bool.not_eq_false, beq_eq_false_iff_ne, ne_eq, bne_eq_false_iff_eq, Bool.and_eq_true, Bool.or_eq_true, Bool.not_not] at hg22')
        refine OD.still (wants_T rfl rfl rfl lk (by first | rfl | assumption)) rfl (still_mv rfl ot) ?_
        refine OD.still (wants_T rfl rfl rfl lk (by first | rfl | assumption)) rfl (still_mv rfl ot) ?_
        have hi1 : i + 1 < s.size := by simp at *; omega
        refine OD.still (wants_T rfl rfl rfl lk (by first | rfl | assumption)) rfl (still_bin (r := .int .i64 ((i + 1 : Nat) : Int)) rfl ot opd_const (bin_add (by show IntKind.i64.wrap ((i : Int) + 1) = (i : Int) + 1; exact wrap_i64 (by omega) (by omega)))) ?_
        refine OD.still (wants_T rfl rfl rfl lk (by first | rfl | assumption)) rfl (still_sidx (c := byteAt s (i + 1)) rfl ot ot Tryd.runUnderlying9 rfl (str_at hi1)) ?_
        refine OD.still (wants_T rfl rfl rfl lk (by first | rfl | assumption)) rfl (still_bin rfl ot opd_const bin_neq) ?_
        refine OD.still (wants_plain rfl) rfl (still_pickF rfl ot (by first | rfl | assumption) ot) ?_
        refine OD.wk (Wk.as_ (n := 43) (l' := [(0, _), (2, _), (5, _), (6, _), (28, _)]) (S' := (⟨b2, 30, 3, [_, _, _]⟩ :: Sb)) rfl rfl ⟨lk, lk, lk, lk, lk, trivial⟩) ?_
        refine OD.nil ?_
        refine CD.cond ot (fun hc2 => ?_) (fun hc2 => ?_)
        · have hc2' := hc2
          (try simp only [decide_eq_true_eq, decide_eq_false_iff_not, beq_iff_eq, bne_iff_ne, Bool.not_eq_true', Bool.not_eq_false', Bool.not_eq_true, Bool.not_eq_false, beq_eq_false_iff_ne, ne_eq, bne_eq_false_iff_eq, Bool.and_eq_true, Bool.or_eq_true, Bool.not_not, Bool.and_eq_false_iff, Bool.or_eq_false_iff, Int.not_lt, Int.not_le] at hc2')
          have hend : textG (s.data.toList.drop i) acc i = (⟨3, ⟨acc.toArray⟩, 0⟩, i + 1, 0) := text_end hil (by rw [hgi]; exact hq) (by first | (left; simp at *; omega) | (right; refine ⟨by omega, fun e => ?_⟩; rw [byteAt_get] at e; simp [e] at *))
          rw [ht] at hend
          refine CD.seq ?_
          refine CD.region ?_
          refine OD.still (wants_plain rfl) rfl (still_mv rfl ot) ?_
          refine OD.giveL (t := 29) (Sq := Sb) lk hob (fm_len cB_len _) (perm_r11 (A := [_])) ?_
          first | refine OD.still (wants_plain rfl) rfl (still_ofBytes rfl ot Tryd.underlying24 Tryd.underlying5 Tryd.underlying9) ?_ | refine OD.still (wants_plain rfl) rfl (still_ofBytesF rfl ot Tryd.underlying24 Tryd.underlying5 Tryd.underlying9) ?_
          refine OD.still (wants_plain rfl) rfl (still_bld (pl := [(0, _), (1, _)]) (ds := [_, _, _]) rfl Tryd.zeroValue30 Tryd.runUnderlying30 places30_Lx1 ⟨rfl, opd_const, rfl, ot, trivial⟩ rfl rfl) ?_
          refine OD.still (wants_plain rfl) rfl (still_mv rfl ot) ?_
          refine OD.still (wants_plain rfl) rfl (still_bin rfl ot opd_const (bin_add (wrap_i64 (by omega) (by omega)))) ?_
          refine OD.store (k := 0) (cs' := [_, _, _]) (wants_plain rfl) rfl rfl ot rfl rfl ot rfl rfl Tryd.sizeOf30 rfl rfl rfl ?_
          refine OD.still (wants_plain rfl) rfl (still_as rfl ot) ?_
          refine OD.still (wants_plain rfl) rfl (still_as rfl opd_const) ?_
          refine OD.wk (Wk.as_ (n := 43) (l' := [(2, _), (3, _), (4, _)]) (S' := [⟨b2, 30, 3, [_, _, _]⟩]) rfl rfl ⟨lk, lk, lk, trivial⟩) ?_
          refine OD.nil ?_
          refine CD.ret ?_
          refine ⟨.inr rfl, _, [], List.nil_sublist _, ret_three Tryd.results29 (res_cells (k := 0) (ds := [_, _, _]) (Nat.le_of_ble_eq_true rfl) lk rfl rfl Tryd.isAgg30 Tryd.sizeOf30 rfl rfl) (res_tmp (Nat.le_of_ble_eq_true rfl) lk) (res_tmp (Nat.le_of_ble_eq_true rfl) lk), ?_⟩
          first | (rw [hend]; exact ⟨rfl, rfl⟩) | (rw [hshort]; exact ⟨rfl, rfl⟩)
        · have hc2' := hc2
          (try simp only [decide_eq_true_eq, decide_eq_false_iff_not, beq_iff_eq, bne_iff_ne, Bool.not_eq_true', Bool.not_eq_false', Bool.not_eq_true, Bool.not_eq_false, beq_eq_false_iff_ne, ne_eq, bne_eq_false_iff_eq, Bool.and_eq_true, Bool.or_eq_true, Bool.not_not, Bool.and_eq_false_iff, Bool.or_eq_false_iff, Int.not_lt, Int.not_le] at hc2')
          have hi1 : i + 1 < s.size := by simp at *; omega
          have hil1 : i + 1 < s.data.toList.length := by omega
          have hgi1 := byteAt_get hil1
          have hq1 : byteAt s (i + 1) = 39 := UInt8.toNat_inj.1 (by simp at *; show (byteAt s (i + 1)).toNat = 39; omega)
          have hst := text_two (acc := acc) hil1 (by rw [hgi]; exact hq) (by rw [hgi1]; exact hq1)
          rw [hgi1] at hst
          refine CD.skip ?_
          refine CD.region ?_
          refine OD.still (wants_plain rfl) rfl (still_mv rfl ot) ?_
          refine OD.still (wants_plain rfl) rfl (still_bin (r := .int .i64 ((i + 1 : Nat) : Int)) rfl ot opd_const (bin_add (by show IntKind.i64.wrap ((i : Int) + 1) = (i : Int) + 1; exact wrap_i64 (by omega) (by omega)))) ?_
          refine OD.still (wants_plain rfl) rfl (still_as rfl ot) ?_
          refine OD.wk (Wk.as_ (n := 43) (l' := [(0, _), (2, _), (5, _), (6, _)]) (S' := (⟨b2, 30, 3, [_, _, _]⟩ :: Sb)) rfl rfl ⟨lk, lk, lk, lk, trivial⟩) ?_
          refine OD.nil ?_
          refine CD.region ?_
          refine OD.still (wants_plain rfl) rfl (still_mv rfl ot) ?_
          refine OD.still (wants_plain rfl) rfl (still_mv rfl ot) ?_
          refine OD.still (wants_plain rfl) rfl (still_mv rfl ot) ?_
          refine OD.still (wants_plain rfl) rfl (still_sidx (c := byteAt s (i + 1)) rfl ot ot Tryd.runUnderlying9 rfl (str_at hi1)) ?_
          refine OD.bldS (pl := [(0, _)]) (zvs := [.int .u8 0]) (ds := [_]) (wants_plain rfl) rfl rfl Tryd.zeroValue5 Tryd.runUnderlying24 Tryd.sizeOf5 rfl rfl (by kernel_rfl) ⟨rfl, ot, trivial⟩ rfl rfl (fun b40 => ?_)
          refine OD.give (k := 0) (t := 40) (sz := 1) (m := 1) rfl lk rfl rfl rfl (Nat.le_refl _) (by decide) ?_
          refine OD.appendG (ls := (acc)) (new := [byteAt s (i + 1)]) (Sq := Sb) cB_len cB_one (wants_plain rfl) rfl rfl Tryd.underlying24 info5_Lx1 rfl (by decide) ot hob (perm_r11 (A := [_])) ot (by simp) (by simp [maxLen]; omega) (by simp; omega) (fun b41 cp41 h141 h241 => ?_)
          refine OD.perm (perm_q11 (S1 := [⟨b41, 5, cp41 * 1, List.flatMap cB ((acc) ++ [byteAt s (i + 1)])⟩]) (A := [_])) ?_
          refine OD.still (wants_plain rfl) rfl (still_as rfl ot) ?_
          refine OD.wk (Wk.as_ (n := 43) (l' := [(0, _), (2, _), (5, _), (6, _)]) (S' := (⟨b2, 30, 3, [_, _, _]⟩ :: [⟨b41, 5, cp41 * 1, List.flatMap cB ((acc) ++ [byteAt s (i + 1)])⟩])) rfl rfl ⟨lk, lk, lk, lk, trivial⟩) ?_
          refine OD.nil ?_
          refine CD.region ?_
          refine OD.still (wants_plain rfl) rfl (still_mv rfl ot) ?_
          refine OD.still (wants_plain rfl) rfl (still_bin rfl ot opd_const (bin_add (wrap_i64 (by omega) (by omega)))) ?_
          refine OD.still (wants_plain rfl) rfl (still_as rfl ot) ?_
          refine OD.wk (Wk.as_ (n := 43) (l' := [(0, _), (2, _), (5, _), (6, _)]) (S' := (⟨b2, 30, 3, [_, _, _]⟩ :: [⟨b41, 5, cp41 * 1, List.flatMap cB ((acc) ++ [byteAt s (i + 1)])⟩])) rfl rfl ⟨lk, lk, lk, lk, trivial⟩) ?_
          refine OD.nil ?_
          refine ⟨((i + 2), (acc ++ [byteAt s (i + 1)]), (some ⟨b41, 0, none⟩), cp41, [⟨b41, 5, cp41 * 1, List.flatMap cB ((acc) ++ [byteAt s (i + 1)])⟩]), ⟨43, [(0, .v (.string s)), (2, .v (.pointer (some ⟨b2, 0, none⟩))), (5, .v (.slice ((some ⟨b41, 0, none⟩)) (((acc ++ [byteAt s (i + 1)]))).length cp41)), (6, .v (.int .i64 (((i + 2)) : Nat)))], ((⟨b2, 30, 3, cT noTk⟩ : Blk) :: ([⟨b41, 5, cp41 * 1, List.flatMap cB ((acc) ++ [byteAt s (i + 1)])⟩]))⟩, ?_, Wk.asS (n := 43) rfl (by repeat (first | exact List.Sublist.refl _ | apply List.Sublist.cons_cons | apply List.Sublist.cons)) ⟨(by (repeat (first | exact look_hit | (apply look_at; focus (first | rfl | (simp; done) | (congr 2; omega) | (apply row_eq; simp; done))) | (apply look_miss; focus rfl))); done), (by (repeat (first | exact look_hit | (apply look_at; focus (first | rfl | (simp; done) | (congr 2; omega) | (apply row_eq; simp; done))) | (apply look_miss; focus rfl))); done), (by (repeat (first | exact look_hit | (apply look_at; focus (first | rfl | (simp; done) | (congr 2; omega) | (apply row_eq; simp; done))) | (apply look_miss; focus rfl))); done), (by (repeat (first | exact look_hit | (apply look_at; focus (first | rfl | (simp; done) | (congr 2; omega) | (apply row_eq; simp; done))) | (apply look_miss; focus rfl))); done), trivial⟩, (hst.symm.trans ht), (by simp; omega), (by omega), (OwnL.cast (ownL_row h141 h241) (by first | rfl | simp)), rfl⟩
          first | omega | (simp only []; omega)
    · have hc1' := hc1
      (try simp only [decide_eq_true_eq, decide_eq_false_iff_not, beq_iff_eq, bne_iff_ne, Bool.not_eq_true', Bool.not_eq_false', Bool.not_eq_true, Bool.not_eq_false, beq_eq_false_iff_ne, ne_eq, bne_eq_false_iff_eq, Bool.and_eq_true, Bool.or_eq_true, Bool.not_not, Bool.and_eq_false_iff, Bool.or_eq_false_iff, Int.not_lt, Int.not_le] at hc1')
      have hq : byteAt s i ≠ 39 := fun e => by rw [e] at hc1; simp at hc1
      have hst := text_step (acc := acc) hil (by rw [hgi]; exact hq)
      rw [hgi] at hst
      refine CD.skip ?_
      refine CD.region ?_
      refine OD.still (wants_plain rfl) rfl (still_mv rfl ot) ?_
      refine OD.still (wants_plain rfl) rfl (still_mv rfl ot) ?_
      refine OD.still (wants_plain rfl) rfl (still_mv rfl ot) ?_
      refine OD.still (wants_plain rfl) rfl (still_sidx (c := byteAt s i) rfl ot ot Tryd.runUnderlying9 rfl (str_at hlt)) ?_
      refine OD.bldS (pl := [(0, _)]) (zvs := [.int .u8 0]) (ds := [_]) (wants_plain rfl) rfl rfl Tryd.zeroValue5 Tryd.runUnderlying24 Tryd.sizeOf5 rfl rfl (by kernel_rfl) ⟨rfl, ot, trivial⟩ rfl rfl (fun b40 => ?_)
      refine OD.give (k := 0) (t := 40) (sz := 1) (m := 1) rfl lk rfl rfl rfl (Nat.le_refl _) (by decide) ?_
      refine OD.appendG (ls := (acc)) (new := [byteAt s i]) (Sq := Sb) cB_len cB_one (wants_plain rfl) rfl rfl Tryd.underlying24 info5_Lx1 rfl (by decide) ot hob (perm_r11 (A := [_])) ot (by simp) (by simp [maxLen]; omega) (by simp; omega) (fun b41 cp41 h141 h241 => ?_)
      refine OD.perm (perm_q11 (S1 := [⟨b41, 5, cp41 * 1, List.flatMap cB ((acc) ++ [byteAt s i])⟩]) (A := [_])) ?_
      refine OD.still (wants_plain rfl) rfl (still_as rfl ot) ?_
      refine OD.wk (Wk.as_ (n := 43) (l' := [(0, _), (2, _), (5, _), (6, _)]) (S' := (⟨b2, 30, 3, [_, _, _]⟩ :: [⟨b41, 5, cp41 * 1, List.flatMap cB ((acc) ++ [byteAt s i])⟩])) rfl rfl ⟨lk, lk, lk, lk, trivial⟩) ?_
      refine OD.nil ?_
      refine CD.region ?_
      refine OD.still (wants_plain rfl) rfl (still_mv rfl ot) ?_
      refine OD.still (wants_plain rfl) rfl (still_bin rfl ot opd_const (bin_add (wrap_i64 (by omega) (by omega)))) ?_
      refine OD.still (wants_plain rfl) rfl (still_as rfl ot) ?_
      refine OD.wk (Wk.as_ (n := 43) (l' := [(0, _), (2, _), (5, _), (6, _)]) (S' := (⟨b2, 30, 3, [_, _, _]⟩ :: [⟨b41, 5, cp41 * 1, List.flatMap cB ((acc) ++ [byteAt s i])⟩])) rfl rfl ⟨lk, lk, lk, lk, trivial⟩) ?_
      refine OD.nil ?_
      refine ⟨((i + 1), (acc ++ [byteAt s i]), (some ⟨b41, 0, none⟩), cp41, [⟨b41, 5, cp41 * 1, List.flatMap cB ((acc) ++ [byteAt s i])⟩]), ⟨43, [(0, .v (.string s)), (2, .v (.pointer (some ⟨b2, 0, none⟩))), (5, .v (.slice ((some ⟨b41, 0, none⟩)) (((acc ++ [byteAt s i]))).length cp41)), (6, .v (.int .i64 (((i + 1)) : Nat)))], ((⟨b2, 30, 3, cT noTk⟩ : Blk) :: ([⟨b41, 5, cp41 * 1, List.flatMap cB ((acc) ++ [byteAt s i])⟩]))⟩, ?_, Wk.asS (n := 43) rfl (by repeat (first | exact List.Sublist.refl _ | apply List.Sublist.cons_cons | apply List.Sublist.cons)) ⟨(by (repeat (first | exact look_hit | (apply look_at; focus (first | rfl | (simp; done) | (congr 2; omega) | (apply row_eq; simp; done))) | (apply look_miss; focus rfl))); done), (by (repeat (first | exact look_hit | (apply look_at; focus (first | rfl | (simp; done) | (congr 2; omega) | (apply row_eq; simp; done))) | (apply look_miss; focus rfl))); done), (by (repeat (first | exact look_hit | (apply look_at; focus (first | rfl | (simp; done) | (congr 2; omega) | (apply row_eq; simp; done))) | (apply look_miss; focus rfl))); done), (by (repeat (first | exact look_hit | (apply look_at; focus (first | rfl | (simp; done) | (congr 2; omega) | (apply row_eq; simp; done))) | (apply look_miss; focus rfl))); done), trivial⟩, (hst.symm.trans ht), (by simp; omega), (by omega), (OwnL.cast (ownL_row h141 h241) (by first | rfl | simp)), rfl⟩
      first | omega | (simp only []; omega)
  · have hc0' := hc0
    (try simp only [decide_eq_true_eq, decide_eq_false_iff_not, beq_iff_eq, bne_iff_ne, Bool.not_eq_true', Bool.not_eq_false', Bool.not_eq_true, Bool.not_eq_false, beq_eq_false_iff_ne, ne_eq, bne_eq_false_iff_eq, Bool.and_eq_true, Bool.or_eq_true, Bool.not_not, Bool.and_eq_false_iff, Bool.or_eq_false_iff, Int.not_lt, Int.not_le] at hc0')
    have hshort := text_short (acc := acc) (show s.data.toList.length ≤ i by omega)
    rw [ht] at hshort
    refine CD.exit ?_
    refine CD.seq ?_
    refine CD.region ?_
    refine OD.still (wants_plain rfl) rfl (still_bld (pl := []) (ds := [_, _, _]) rfl Tryd.zeroValue30 Tryd.runUnderlying30 places30_Lx1 trivial rfl rfl) ?_
    refine OD.store (k := 0) (cs' := [_, _, _]) (wants_plain rfl) rfl rfl ot rfl rfl ot rfl rfl Tryd.sizeOf30 rfl rfl rfl ?_
    refine OD.still (wants_plain rfl) rfl (still_as rfl opd_const) ?_
    refine OD.still (wants_plain rfl) rfl (still_as rfl opd_const) ?_
    refine OD.wk (Wk.as_ (n := 43) (l' := [(2, _), (3, _), (4, _)]) (S' := (⟨b2, 30, 3, [_, _, _]⟩ :: Sb)) rfl rfl ⟨lk, lk, lk, trivial⟩) ?_
    refine OD.nil ?_
    refine CD.ret ?_
    refine ⟨.inr rfl, _, [], List.nil_sublist _, ret_three Tryd.results29 (res_cells (k := 0) (ds := [_, _, _]) (Nat.le_of_ble_eq_true rfl) lk rfl rfl Tryd.isAgg30 Tryd.sizeOf30 rfl rfl) (res_tmp (Nat.le_of_ble_eq_true rfl) lk) (res_tmp (Nat.le_of_ble_eq_true rfl) lk), ?_⟩
    first | (rw [hend]; exact ⟨rfl, rfl⟩) | (rw [hshort]; exact ⟨rfl, rfl⟩)

theorem span_len (p : UInt8 → Bool) (s : ByteArray) : spanN p s ≤ s.size := by
  rw [← str_len s]
  exact (List.takeWhile_prefix p).length_le
theorem ext_span (p : UInt8 → Bool) (s : ByteArray) : (s.extract 0 (spanN p s)).data.toList = s.data.toList.takeWhile p := by
  rw [ByteArray.data_extract, Array.toList_extract]
  have := List.prefix_iff_eq_take.1 (List.takeWhile_prefix (l := s.data.toList) p)
  show (s.data.toList.drop 0).take (spanN p s - 0) = _
  rw [List.drop_zero, Nat.sub_zero]
  exact this.symm
theorem byte0 (s : ByteArray) : s.data.toList.getD 0 0 = byteAt s 0 := rfl
theorem one_word {s : ByteArray} (h : letterB (byteAt s 0) = true) : oneF s.data.toList = (⟨1, s.extract 0 (spanN wordB s), 0⟩, spanN wordB s, 0) := by
  unfold oneF
  rw [byte0, if_pos h]
  have : s.extract 0 (spanN wordB s) = ⟨(s.data.toList.takeWhile wordB).toArray⟩ := str_ext (by rw [ext_span])
  rw [this]; rfl
theorem after_eq (s : ByteArray) : afterL s.data.toList = (decide (spanN digitB s < s.size) && letterB (byteAt s (spanN digitB s))) := by
  unfold afterL
  have ht : s.data.toList.dropWhile digitB = s.data.toList.drop (spanN digitB s) := by
    have h1 := List.takeWhile_append_dropWhile (p := digitB) (l := s.data.toList)
    conv => rhs; rw [← h1]
    exact (List.drop_left).symm
  rw [ht]
  by_cases h : spanN digitB s < s.size
  · have hl : spanN digitB s < s.data.toList.length := by rw [str_len]; exact h
    rw [List.drop_eq_getElem_cons hl, byteAt_get hl]
    simp [h]
  · rw [List.drop_eq_nil_of_le (by rw [str_len]; omega)]
    simp [h]
theorem one_after {s : ByteArray} (h0 : letterB (byteAt s 0) = false) (h1 : digitB (byteAt s 0) = true) (h2 : (decide (spanN digitB s < s.size) && letterB (byteAt s (spanN digitB s))) = true) : oneF s.data.toList = (noTk, 0, 6) := by
  unfold oneF
  rw [byte0, if_neg (by rw [h0]; simp), if_pos h1, after_eq, if_pos h2]
theorem one_num {s : ByteArray} (h0 : letterB (byteAt s 0) = false) (h1 : digitB (byteAt s 0) = true) (h2 : (decide (spanN digitB s < s.size) && letterB (byteAt s (spanN digitB s))) = false) : oneF s.data.toList = numL s.data.toList := by
  unfold oneF
  rw [byte0, if_neg (by rw [h0]; simp), if_pos h1, after_eq, if_neg (by rw [h2]; simp)]
theorem num_ok {s : ByteArray} {v : Int} (h : Lib.atoiAll (s.extract 0 (spanN digitB s)).data.toList = .ok v) : numL s.data.toList = (⟨2, ⟨#[]⟩, v⟩, spanN digitB s, 0) := by
  rw [ext_span] at h
  unfold numL
  rw [h]; rfl
theorem num_over {s : ByteArray} (h : Lib.atoiAll (s.extract 0 (spanN digitB s)).data.toList = .range) : numL s.data.toList = (noTk, 0, 5) := by
  rw [ext_span] at h
  unfold numL
  rw [h]
theorem one_text {s : ByteArray} (h0 : letterB (byteAt s 0) = false) (h1 : digitB (byteAt s 0) = false) (h2 : byteAt s 0 = 39) : oneF s.data.toList = textG (s.data.toList.drop 1) [] 1 := by
  unfold oneF
  rw [byte0, if_neg (by rw [h0]; simp), if_neg (by rw [h1]; simp), if_pos h2]
theorem one_mark {s : ByteArray} (h0 : letterB (byteAt s 0) = false) (h1 : digitB (byteAt s 0) = false) (h2 : byteAt s 0 ≠ 39) : oneF s.data.toList = markL s.data.toList := by
  unfold oneF
  rw [byte0, if_neg (by rw [h0]; simp), if_neg (by rw [h1]; simp), if_neg h2]
theorem mark_hit {l : List UInt8} {k : Nat} (hk : k < marksB.length) (h0 : ∀ m ∈ marksB.take k, m.isPrefixOf l = false) (h1 : marksB[k].isPrefixOf l = true) : markL l = (⟨4, ⟨marksB[k].toArray⟩, 0⟩, marksB[k].length, 0) := by
  have : marksB.find? (fun m => m.isPrefixOf l) = some marksB[k] := by
    rw [List.find?_eq_some_iff_getElem]
    refine ⟨h1, k, hk, rfl, fun j hj => ?_⟩
    have := h0 marksB[j] (List.mem_take_iff_getElem.2 ⟨j, by omega, rfl⟩)
    rw [this]; rfl
  unfold markL
  rw [this]
theorem mark_none {l : List UInt8} (h0 : ∀ m ∈ marksB.take 12, m.isPrefixOf l = false) : markL l = (noTk, 0, 6) := by
  have : marksB.find? (fun m => m.isPrefixOf l) = none := by
    rw [List.find?_eq_none]
    intro m hm; rw [h0 m hm]; simp
  unfold markL
  rw [this]
theorem marks_at {k : Nat} (hk : k < marksB.length) : (marksC.map D.v)[k * 1]? = some (.v (.string ⟨marksB[k].toArray⟩)) := by
  have h2 : k < (marksC.map D.v).length := by rw [List.length_map]; exact hk
  rw [Nat.mul_one, List.getElem?_eq_getElem h2]
  simp [marksC, marksL]
theorem pref_vp (s p : ByteArray) : VP Tryd.prog G 30 [.v (.string s), .v (.string p)] (.v (.bool (p.data.toList.isPrefixOf s.data.toList))) :=
  VP.ofCalls (P := Tryd.prog) (G := G) (f := 30) (vs := [.string s, .string p]) (v := .bool (p.data.toList.isPrefixOf s.data.toList)) fun w _ =>
    (Tryd.strings_HasPrefix s p w).mono fun e w' ⟨h1, h2⟩ => ⟨h1, h2 ▸ Below.refl _ _⟩

theorem takeW_all (p : UInt8 → Bool) : ∀ (l : List UInt8) (c : UInt8), c ∈ l.takeWhile p → p c = true
  | [], c, h => by cases h
  | a :: r, c, h => by
    rw [List.takeWhile_cons] at h
    split at h
    · rcases List.mem_cons.1 h with rfl | h
      · assumption
      · exact takeW_all p r c h
    · cases h
theorem takeW_ne {p : UInt8 → Bool} {l : List UInt8} (h : p (l.getD 0 0) = true) (h0 : 0 < l.length) : l.takeWhile p ≠ [] := by
  match l, h0 with
  | a :: r, _ =>
    have h : p a = true := h
    rw [List.takeWhile_cons, if_pos h]; simp

set_option maxHeartbeats 4000000 in
set_option maxRecDepth 100000 in
theorem one_vp (hm : (0, marksC) ∈ G) (s : ByteArray) (h0 : 0 < s.size) (hs : s.size ≤ 1000000) (hov : (oneF s.data.toList).2.2 = 5 → RangeVar G) : VP Tryd.prog G 17 [.v (.string s)] (tokD (oneF s.data.toList)) := by
  refine VC.body Tryd.func17 rfl Tryd.ntmps17 (Nat.le_of_ble_eq_true rfl) fun X0 w0 S00 => ?_
  have hmx : maxLen = 9223372036854775807 := rfl
  have hw1 := span_len wordB s
  have hw2 := span_len digitB s
  refine CD.seq ?_
  refine CD.region ?_
  refine OD.alloc (ds := [_, _, _]) (wants_plain rfl) rfl rfl Tryd.zeroValue30 rfl (fun b2 => ?_)
  refine OD.still (wants_plain rfl) rfl (still_as rfl opd_const) ?_
  refine OD.still (wants_plain rfl) rfl (still_as rfl opd_const) ?_
  refine OD.wk (Wk.as_ (n := 74) (l' := [(0, _), (2, _)]) (S' := [⟨b2, 30, 3, [_, _, _]⟩]) rfl rfl ⟨lk, lk, trivial⟩) ?_
  refine OD.nil ?_
  refine CD.seq ?_
  refine CD.block ?_
  refine CD.seq ?_
  refine CD.region ?_
  refine OD.still (wants_plain rfl) rfl (still_mv rfl ot) ?_
  refine OD.still (wants_plain rfl) rfl (still_sidx (c := byteAt s 0) rfl ot opd_const Tryd.runUnderlying9 rfl (str_at h0)) ?_
  refine OD.callP (wants_plain rfl) rfl rfl rfl Tryd.call25 (letter_vp _) ⟨ot, trivial⟩ ?_
  refine OD.still (wants_plain rfl) rfl (still_as rfl ot) ?_
  refine OD.wk (Wk.as_ (n := 74) (l' := [(0, _), (2, _), (11, _)]) (S' := [⟨b2, 30, 3, [_, _, _]⟩]) rfl rfl ⟨lk, lk, lk, trivial⟩) ?_
  refine OD.nil ?_
  refine CD.cond ot (fun hc0 => ?_) (fun hc0 => ?_)
  · have hc0' := hc0
    (try simp only [decide_eq_true_eq, decide_eq_false_iff_not, beq_iff_eq, bne_iff_ne, Bool.not_eq_true', Bool.not_eq_false', Bool.not_eq_true, Bool.not_eq_false, beq_eq_false_iff_ne, ne_eq, bne_eq_false_iff_eq, Bool.and_eq_true, Bool.or_eq_true, Bool.not_not, Bool.and_eq_false_iff, Bool.or_eq_false_iff, Int.not_lt, Int.not_le] at hc0')
    have hone := one_word hc0
    refine CD.seq ?_
    refine CD.region ?_
    refine OD.still (wants_plain rfl) rfl (still_mv rfl ot) ?_
    refine OD.callP (wants_plain rfl) rfl rfl rfl Tryd.call15 (span_vp s 26 wordB Tryd.call26 one1_vp (by omega)) ⟨ot, opd_func, trivial⟩ ?_
    refine OD.still (wants_plain rfl) rfl (still_as rfl ot) ?_
    refine OD.wk (Wk.as_ (n := 74) (l' := [(0, _), (2, _), (5, _)]) (S' := [⟨b2, 30, 3, [_, _, _]⟩]) rfl rfl ⟨lk, lk, lk, trivial⟩) ?_
    refine OD.nil ?_
    refine CD.seq ?_
    refine CD.region ?_
    refine OD.still (wants_plain rfl) rfl (still_mv rfl ot) ?_
    refine OD.still (wants_plain rfl) rfl (still_mv rfl ot) ?_
    refine OD.still (wants_plain rfl) rfl (still_rs (l := 0) (h := spanN wordB s) rfl ot trivial ⟨_, ot⟩ (by first | exact sl_str (fun _ => rfl) (fun h => by cases h) Tryd.runUnderlying9 (by omega) (by omega))) ?_
    refine OD.still (wants_plain rfl) rfl (still_bld (pl := [(0, _), (1, _)]) (ds := [_, _, _]) rfl Tryd.zeroValue30 Tryd.runUnderlying30 places30_Lx1 ⟨rfl, opd_const, rfl, ot, trivial⟩ rfl rfl) ?_
    refine OD.still (wants_plain rfl) rfl (still_mv rfl ot) ?_
    refine OD.store (k := 0) (cs' := [_, _, _]) (wants_plain rfl) rfl rfl ot rfl rfl ot rfl rfl Tryd.sizeOf30 rfl rfl rfl ?_
    refine OD.still (wants_plain rfl) rfl (still_as rfl ot) ?_
    refine OD.still (wants_plain rfl) rfl (still_as rfl opd_const) ?_
    refine OD.wk (Wk.as_ (n := 74) (l' := [(2, _), (3, _), (4, _)]) (S' := [⟨b2, 30, 3, [_, _, _]⟩]) rfl rfl ⟨lk, lk, lk, trivial⟩) ?_
    refine OD.nil ?_
    refine CD.ret ?_
    refine ⟨.inr rfl, _, [], List.nil_sublist _, ret_three Tryd.results17 (res_cells (k := 0) (ds := [_, _, _]) (Nat.le_of_ble_eq_true rfl) lk rfl rfl Tryd.isAgg30 Tryd.sizeOf30 rfl rfl) (res_tmp (Nat.le_of_ble_eq_true rfl) lk) (res_tmp (Nat.le_of_ble_eq_true rfl) lk), ?_⟩
    rw [hone]; exact ⟨rfl, rfl⟩
  · have hc0' := hc0
    (try simp only [decide_eq_true_eq, decide_eq_false_iff_not, beq_iff_eq, bne_iff_ne, Bool.not_eq_true', Bool.not_eq_false', Bool.not_eq_true, Bool.not_eq_false, beq_eq_false_iff_ne, ne_eq, bne_eq_false_iff_eq, Bool.and_eq_true, Bool.or_eq_true, Bool.not_not, Bool.and_eq_false_iff, Bool.or_eq_false_iff, Int.not_lt, Int.not_le] at hc0')
    have hl0 : letterB (byteAt s 0) = false := hc0
    refine CD.seq ?_
    refine CD.region ?_
    refine OD.still (wants_plain rfl) rfl (still_mv rfl ot) ?_
    refine OD.still (wants_plain rfl) rfl (still_sidx (c := byteAt s 0) rfl ot opd_const Tryd.runUnderlying9 rfl (str_at h0)) ?_
    refine OD.callP (wants_plain rfl) rfl rfl rfl Tryd.call27 (digit_vp _) ⟨ot, trivial⟩ ?_
    refine OD.still (wants_plain rfl) rfl (still_as rfl ot) ?_
    refine OD.wk (Wk.as_ (n := 74) (l' := [(0, _), (2, _), (22, _)]) (S' := [⟨b2, 30, 3, [_, _, _]⟩]) rfl rfl ⟨lk, lk, lk, trivial⟩) ?_
    refine OD.nil ?_
    refine CD.cond ot (fun hc1 => ?_) (fun hc1 => ?_)
    · have hc1' := hc1
      (try simp only [decide_eq_true_eq, decide_eq_false_iff_not, beq_iff_eq, bne_iff_ne, Bool.not_eq_true', Bool.not_eq_false', Bool.not_eq_true, Bool.not_eq_false, beq_eq_false_iff_ne, ne_eq, bne_eq_false_iff_eq, Bool.and_eq_true, Bool.or_eq_true, Bool.not_not, Bool.and_eq_false_iff, Bool.or_eq_false_iff, Int.not_lt, Int.not_le] at hc1')
      have hd0 : digitB (byteAt s 0) = true := hc1
      refine CD.seq ?_
      refine CD.region ?_
      refine OD.still (wants_plain rfl) rfl (still_mv rfl ot) ?_
      refine OD.callP (wants_plain rfl) rfl rfl rfl Tryd.call15 (span_vp s 27 digitB Tryd.call27 digit_vp (by omega)) ⟨ot, opd_func, trivial⟩ ?_
      refine OD.still (wants_plain rfl) rfl (still_as rfl ot) ?_
      refine OD.wk (Wk.as_ (n := 74) (l' := [(0, _), (2, _), (6, _)]) (S' := [⟨b2, 30, 3, [_, _, _]⟩]) rfl rfl ⟨lk, lk, lk, trivial⟩) ?_
      refine OD.nil ?_
      refine CD.seq ?_
      refine CD.seq ?_
      refine CD.region ?_
      refine OD.still (wants_plain rfl) rfl (still_mv rfl ot) ?_
      refine OD.still (wants_plain rfl) rfl (still_mv rfl ot) ?_
      refine OD.still (wants_plain rfl) rfl (still_slen rfl rfl ot Tryd.runUnderlying9) ?_
      refine OD.still (wants_plain rfl) rfl (still_bin rfl ot ot bin_lss) ?_
      refine OD.still (wants_plain rfl) rfl (still_mv rfl ot) ?_
      refine OD.split (t := 32) lk (fun hg32 => ?_) (fun hg32 => ?_)
      · have hg32' := hg32; (try simp only [decide_eq_true_eq, decide_eq_false_iff_not, beq_iff_eq, bne_iff_ne, Bool.not_eq_true', Bool.not_eq_false', Bool.not_eq_true, Bool.not_eq_false, beq_eq_false_iff_ne, ne_eq, bne_eq_false_iff_eq, Bool.and_eq_true, Bool.or_eq_true, Bool.not_not] at hg32')
        have hsn : spanN digitB s < s.size := by simp at *; omega
        refine OD.still (wants_T rfl rfl rfl lk (by first | rfl | assumption)) rfl (still_mv rfl ot) ?_
        refine OD.still (wants_T rfl rfl rfl lk (by first | rfl | assumption)) rfl (still_mv rfl ot) ?_
        refine OD.still (wants_T rfl rfl rfl lk (by first | rfl | assumption)) rfl (still_sidx (c := byteAt s (spanN digitB s)) rfl ot ot Tryd.runUnderlying9 rfl (str_at hsn)) ?_
        refine OD.callP (wants_T rfl rfl rfl lk (by first | rfl | assumption)) rfl rfl rfl Tryd.call25 (letter_vp _) ⟨ot, trivial⟩ ?_
        refine OD.still (wants_plain rfl) rfl (still_pickT rfl ot (by first | rfl | assumption) ot) ?_
        refine OD.wk (Wk.as_ (n := 74) (l' := [(0, _), (2, _), (6, _), (37, _)]) (S' := [⟨b2, 30, 3, [_, _, _]⟩]) rfl rfl ⟨lk, lk, lk, lk, trivial⟩) ?_
        refine OD.nil ?_
        refine CD.cond ot (fun hc2 => ?_) (fun hc2 => ?_)
        · have hc2' := hc2
          (try simp only [decide_eq_true_eq, decide_eq_false_iff_not, beq_iff_eq, bne_iff_ne, Bool.not_eq_true', Bool.not_eq_false', Bool.not_eq_true, Bool.not_eq_false, beq_eq_false_iff_ne, ne_eq, bne_eq_false_iff_eq, Bool.and_eq_true, Bool.or_eq_true, Bool.not_not, Bool.and_eq_false_iff, Bool.or_eq_false_iff, Int.not_lt, Int.not_le] at hc2')
          have hone := one_after hl0 hd0 (by simp at *; simp [*])
          refine CD.seq ?_
          refine CD.region ?_
          refine OD.still (wants_plain rfl) rfl (still_bld (pl := []) (ds := [_, _, _]) rfl Tryd.zeroValue30 Tryd.runUnderlying30 places30_Lx1 trivial rfl rfl) ?_
          refine OD.store (k := 0) (cs' := [_, _, _]) (wants_plain rfl) rfl rfl ot rfl rfl ot rfl rfl Tryd.sizeOf30 rfl rfl rfl ?_
          refine OD.still (wants_plain rfl) rfl (still_as rfl opd_const) ?_
          refine OD.still (wants_plain rfl) rfl (still_as rfl opd_const) ?_
          refine OD.wk (Wk.as_ (n := 74) (l' := [(2, _), (3, _), (4, _)]) (S' := [⟨b2, 30, 3, [_, _, _]⟩]) rfl rfl ⟨lk, lk, lk, trivial⟩) ?_
          refine OD.nil ?_
          refine CD.ret ?_
          refine ⟨.inr rfl, _, [], List.nil_sublist _, ret_three Tryd.results17 (res_cells (k := 0) (ds := [_, _, _]) (Nat.le_of_ble_eq_true rfl) lk rfl rfl Tryd.isAgg30 Tryd.sizeOf30 rfl rfl) (res_tmp (Nat.le_of_ble_eq_true rfl) lk) (res_tmp (Nat.le_of_ble_eq_true rfl) lk), ?_⟩
          rw [hone]; exact ⟨rfl, rfl⟩
        · have hc2' := hc2
          (try simp only [decide_eq_true_eq, decide_eq_false_iff_not, beq_iff_eq, bne_iff_ne, Bool.not_eq_true', Bool.not_eq_false', Bool.not_eq_true, Bool.not_eq_false, beq_eq_false_iff_ne, ne_eq, bne_eq_false_iff_eq, Bool.and_eq_true, Bool.or_eq_true, Bool.not_not, Bool.and_eq_false_iff, Bool.or_eq_false_iff, Int.not_lt, Int.not_le] at hc2')
          have ha0 : (decide (spanN digitB s < s.size) && letterB (byteAt s (spanN digitB s))) = false := by first | (rw [hc2]; simp; done) | (simp at *; simp [*]; done) | (simp at *; omega)
          refine CD.skip ?_
          refine CD.seq ?_
          refine CD.region ?_
          refine OD.still (wants_plain rfl) rfl (still_mv rfl ot) ?_
          refine OD.still (wants_plain rfl) rfl (still_mv rfl ot) ?_
          refine OD.still (wants_plain rfl) rfl (still_rs (l := 0) (h := spanN digitB s) rfl ot trivial ⟨_, ot⟩ (by first | exact sl_str (fun _ => rfl) (fun h => by cases h) Tryd.runUnderlying9 (by omega) (by omega))) ?_
          refine OD.call (wants_plain rfl) rfl rfl rfl Tryd.call28 (atoi_vc (s.extract 0 (spanN digitB s)) (by rw [← str_len, ext_span]; have := (List.takeWhile_prefix (l := s.data.toList) digitB).length_le; rw [str_len] at this; omega) (by rw [ext_span]; intro c hc; exact takeW_all _ _ c hc) (by rw [ext_span]; exact takeW_ne (by rw [byte0]; exact hd0) (by rw [str_len]; exact h0)) (fun hr => hov (by rw [one_num hl0 hd0 ha0, num_over hr]))) ⟨ot, trivial⟩ (perm_none _) ?_
          rintro _ S43 ⟨rfl, h43⟩
          rcases h43 with ⟨v, hv, rfl⟩ | ⟨hv, v, te, pe, rfl⟩
          · skip
            have hn1 := num_ok hv
            have hone := one_num hl0 hd0 ha0
            rw [hn1] at hone
            refine OD.still (wants_plain rfl) rfl (still_mv rfl ot) ?_
            refine OD.still (wants_plain rfl) rfl (still_extract rfl ot rfl) ?_
            refine OD.still (wants_plain rfl) rfl (still_extract rfl ot rfl) ?_
            refine OD.still (wants_plain rfl) rfl (still_as rfl ot) ?_
            refine OD.still (wants_plain rfl) rfl (still_as rfl ot) ?_
            refine OD.wk (Wk.as_ (n := 74) (l' := [(2, _), (6, _), (7, _), (8, _)]) (S' := [⟨b2, 30, 3, [_, _, _]⟩]) rfl rfl ⟨lk, lk, lk, lk, trivial⟩) ?_
            refine OD.nil ?_
            refine CD.seq ?_
            refine CD.seq ?_
            refine CD.region ?_
            refine OD.still (wants_plain rfl) rfl (still_mv rfl ot) ?_
            refine OD.still (wants_plain rfl) rfl (still_errNo rfl ot Tryd.underlying54) ?_
            refine OD.wk (Wk.as_ (n := 74) (l' := [(2, _), (6, _), (7, _), (47, _)]) (S' := [⟨b2, 30, 3, [_, _, _]⟩]) rfl rfl ⟨lk, lk, lk, lk, trivial⟩) ?_
            refine OD.nil ?_
            refine CD.cond ot (fun hc3 => ?_) (fun hc3 => ?_)
            · exact absurd hc3 (by simp at hc3)
            · have hc3' := hc3
              (try simp only [decide_eq_true_eq, decide_eq_false_iff_not, beq_iff_eq, bne_iff_ne, Bool.not_eq_true', Bool.not_eq_false', Bool.not_eq_true, Bool.not_eq_false, beq_eq_false_iff_ne, ne_eq, bne_eq_false_iff_eq, Bool.and_eq_true, Bool.or_eq_true, Bool.not_not, Bool.and_eq_false_iff, Bool.or_eq_false_iff, Int.not_lt, Int.not_le] at hc3')
              refine CD.skip ?_
              refine CD.seq ?_
              refine CD.region ?_
              refine OD.still (wants_plain rfl) rfl (still_mv rfl ot) ?_
              refine OD.still (wants_plain rfl) rfl (still_bld (pl := [(0, _), (2, _)]) (ds := [_, _, _]) rfl Tryd.zeroValue30 Tryd.runUnderlying30 places30_Lx1 ⟨rfl, opd_const, rfl, ot, trivial⟩ rfl rfl) ?_
              refine OD.still (wants_plain rfl) rfl (still_mv rfl ot) ?_
              refine OD.store (k := 0) (cs' := [_, _, _]) (wants_plain rfl) rfl rfl ot rfl rfl ot rfl rfl Tryd.sizeOf30 rfl rfl rfl ?_
              refine OD.still (wants_plain rfl) rfl (still_as rfl ot) ?_
              refine OD.still (wants_plain rfl) rfl (still_as rfl opd_const) ?_
              refine OD.wk (Wk.as_ (n := 74) (l' := [(2, _), (3, _), (4, _)]) (S' := [⟨b2, 30, 3, [_, _, _]⟩]) rfl rfl ⟨lk, lk, lk, trivial⟩) ?_
              refine OD.nil ?_
              refine CD.ret ?_
              refine ⟨.inr rfl, _, [], List.nil_sublist _, ret_three Tryd.results17 (res_cells (k := 0) (ds := [_, _, _]) (Nat.le_of_ble_eq_true rfl) lk rfl rfl Tryd.isAgg30 Tryd.sizeOf30 rfl rfl) (res_tmp (Nat.le_of_ble_eq_true rfl) lk) (res_tmp (Nat.le_of_ble_eq_true rfl) lk), ?_⟩
              rw [hone]; exact ⟨rfl, rfl⟩
          · skip
            have hn1 := num_over hv
            have hone := one_num hl0 hd0 ha0
            rw [hn1] at hone
            refine OD.still (wants_plain rfl) rfl (still_mv rfl ot) ?_
            refine OD.still (wants_plain rfl) rfl (still_extract rfl ot rfl) ?_
            refine OD.still (wants_plain rfl) rfl (still_extract rfl ot rfl) ?_
            refine OD.still (wants_plain rfl) rfl (still_as rfl ot) ?_
            refine OD.still (wants_plain rfl) rfl (still_as rfl ot) ?_
            refine OD.wk (Wk.as_ (n := 74) (l' := [(2, _), (6, _), (7, _), (8, _)]) (S' := [⟨b2, 30, 3, [_, _, _]⟩]) rfl rfl ⟨lk, lk, lk, lk, trivial⟩) ?_
            refine OD.nil ?_
            refine CD.seq ?_
            refine CD.seq ?_
            refine CD.region ?_
            refine OD.still (wants_plain rfl) rfl (still_mv rfl ot) ?_
            refine OD.still (wants_plain rfl) rfl (still_errYes rfl ot Tryd.underlying54) ?_
            refine OD.wk (Wk.as_ (n := 74) (l' := [(2, _), (6, _), (7, _), (47, _)]) (S' := [⟨b2, 30, 3, [_, _, _]⟩]) rfl rfl ⟨lk, lk, lk, lk, trivial⟩) ?_
            refine OD.nil ?_
            refine CD.cond ot (fun hc3 => ?_) (fun hc3 => ?_)
            · have hc3' := hc3
              (try simp only [decide_eq_true_eq, decide_eq_false_iff_not, beq_iff_eq, bne_iff_ne, Bool.not_eq_true', Bool.not_eq_false', Bool.not_eq_true, Bool.not_eq_false, beq_eq_false_iff_ne, ne_eq, bne_eq_false_iff_eq, Bool.and_eq_true, Bool.or_eq_true, Bool.not_not, Bool.and_eq_false_iff, Bool.or_eq_false_iff, Int.not_lt, Int.not_le] at hc3')
              refine CD.seq ?_
              refine CD.region ?_
              refine OD.still (wants_plain rfl) rfl (still_bld (pl := []) (ds := [_, _, _]) rfl Tryd.zeroValue30 Tryd.runUnderlying30 places30_Lx1 trivial rfl rfl) ?_
              refine OD.store (k := 0) (cs' := [_, _, _]) (wants_plain rfl) rfl rfl ot rfl rfl ot rfl rfl Tryd.sizeOf30 rfl rfl rfl ?_
              refine OD.still (wants_plain rfl) rfl (still_as rfl opd_const) ?_
              refine OD.still (wants_plain rfl) rfl (still_as rfl opd_const) ?_
              refine OD.wk (Wk.as_ (n := 74) (l' := [(2, _), (3, _), (4, _)]) (S' := [⟨b2, 30, 3, [_, _, _]⟩]) rfl rfl ⟨lk, lk, lk, trivial⟩) ?_
              refine OD.nil ?_
              refine CD.ret ?_
              refine ⟨.inr rfl, _, [], List.nil_sublist _, ret_three Tryd.results17 (res_cells (k := 0) (ds := [_, _, _]) (Nat.le_of_ble_eq_true rfl) lk rfl rfl Tryd.isAgg30 Tryd.sizeOf30 rfl rfl) (res_tmp (Nat.le_of_ble_eq_true rfl) lk) (res_tmp (Nat.le_of_ble_eq_true rfl) lk), ?_⟩
              rw [hone]; exact ⟨rfl, rfl⟩
            · exact absurd hc3 (by simp at hc3)
      · have hg32' := hg32; (try simp only [decide_eq_true_eq, decide_eq_false_iff_not, beq_iff_eq, bne_iff_ne, Bool.not_eq_true', Bool.not_eq_false', Bool.not_eq_true, Bool.not_eq_false, beq_eq_false_iff_ne, ne_eq, bne_eq_false_iff_eq, Bool.and_eq_true, Bool.or_eq_true, Bool.not_not] at hg32')
        refine OD.skip (wants_F rfl rfl rfl lk (by first | rfl | assumption)) rfl ?_
        refine OD.skip (wants_F rfl rfl rfl lk (by first | rfl | assumption)) rfl ?_
        refine OD.skip (wants_F rfl rfl rfl lk (by first | rfl | assumption)) rfl ?_
        refine OD.skip (wants_F rfl rfl rfl lk (by first | rfl | assumption)) rfl ?_
        refine OD.still (wants_plain rfl) rfl (still_pickF rfl ot (by first | rfl | assumption) opd_const) ?_
        refine OD.wk (Wk.as_ (n := 74) (l' := [(0, _), (2, _), (6, _), (37, _)]) (S' := [⟨b2, 30, 3, [_, _, _]⟩]) rfl rfl ⟨lk, lk, lk, lk, trivial⟩) ?_
        refine OD.nil ?_
        refine CD.condF ot (by first | rfl | assumption) ?_
        have ha0 : (decide (spanN digitB s < s.size) && letterB (byteAt s (spanN digitB s))) = false := by first | (rw [hc2]; simp; done) | (simp at *; simp [*]; done) | (simp at *; omega)
        refine CD.skip ?_
        refine CD.seq ?_
        refine CD.region ?_
        refine OD.still (wants_plain rfl) rfl (still_mv rfl ot) ?_
        refine OD.still (wants_plain rfl) rfl (still_mv rfl ot) ?_
        refine OD.still (wants_plain rfl) rfl (still_rs (l := 0) (h := spanN digitB s) rfl ot trivial ⟨_, ot⟩ (by first | exact sl_str (fun _ => rfl) (fun h => by cases h) Tryd.runUnderlying9 (by omega) (by omega))) ?_
        refine OD.call (wants_plain rfl) rfl rfl rfl Tryd.call28 (atoi_vc (s.extract 0 (spanN digitB s)) (by rw [← str_len, ext_span]; have := (List.takeWhile_prefix (l := s.data.toList) digitB).length_le; rw [str_len] at this; omega) (by rw [ext_span]; intro c hc; exact takeW_all _ _ c hc) (by rw [ext_span]; exact takeW_ne (by rw [byte0]; exact hd0) (by rw [str_len]; exact h0)) (fun hr => hov (by rw [one_num hl0 hd0 ha0, num_over hr]))) ⟨ot, trivial⟩ (perm_none _) ?_
        rintro _ S43 ⟨rfl, h43⟩
        rcases h43 with ⟨v, hv, rfl⟩ | ⟨hv, v, te, pe, rfl⟩
        · skip
          have hn1 := num_ok hv
          have hone := one_num hl0 hd0 ha0
          rw [hn1] at hone
          refine OD.still (wants_plain rfl) rfl (still_mv rfl ot) ?_
          refine OD.still (wants_plain rfl) rfl (still_extract rfl ot rfl) ?_
          refine OD.still (wants_plain rfl) rfl (still_extract rfl ot rfl) ?_
          refine OD.still (wants_plain rfl) rfl (still_as rfl ot) ?_
          refine OD.still (wants_plain rfl) rfl (still_as rfl ot) ?_
          refine OD.wk (Wk.as_ (n := 74) (l' := [(2, _), (6, _), (7, _), (8, _)]) (S' := [⟨b2, 30, 3, [_, _, _]⟩]) rfl rfl ⟨lk, lk, lk, lk, trivial⟩) ?_
          refine OD.nil ?_
          refine CD.seq ?_
          refine CD.seq ?_
          refine CD.region ?_
          refine OD.still (wants_plain rfl) rfl (still_mv rfl ot) ?_
          refine OD.still (wants_plain rfl) rfl (still_errNo rfl ot Tryd.underlying54) ?_
          refine OD.wk (Wk.as_ (n := 74) (l' := [(2, _), (6, _), (7, _), (47, _)]) (S' := [⟨b2, 30, 3, [_, _, _]⟩]) rfl rfl ⟨lk, lk, lk, lk, trivial⟩) ?_
          refine OD.nil ?_
          refine CD.cond ot (fun hc3 => ?_) (fun hc3 => ?_)
          · exact absurd hc3 (by simp at hc3)
          · have hc3' := hc3
            (try simp only [decide_eq_true_eq, decide_eq_false_iff_not, beq_iff_eq, bne_iff_ne, Bool.not_eq_true', Bool.not_eq_false', Bool.not_eq_true, Bool.not_eq_false, beq_eq_false_iff_ne, ne_eq, bne_eq_false_iff_eq, Bool.and_eq_true, Bool.or_eq_true, Bool.not_not, Bool.and_eq_false_iff, Bool.or_eq_false_iff, Int.not_lt, Int.not_le] at hc3')
            refine CD.skip ?_
            refine CD.seq ?_
            refine CD.region ?_
            refine OD.still (wants_plain rfl) rfl (still_mv rfl ot) ?_
            refine OD.still (wants_plain rfl) rfl (still_bld (pl := [(0, _), (2, _)]) (ds := [_, _, _]) rfl Tryd.zeroValue30 Tryd.runUnderlying30 places30_Lx1 ⟨rfl, opd_const, rfl, ot, trivial⟩ rfl rfl) ?_
            refine OD.still (wants_plain rfl) rfl (still_mv rfl ot) ?_
            refine OD.store (k := 0) (cs' := [_, _, _]) (wants_plain rfl) rfl rfl ot rfl rfl ot rfl rfl Tryd.sizeOf30 rfl rfl rfl ?_
            refine OD.still (wants_plain rfl) rfl (still_as rfl ot) ?_
            refine OD.still (wants_plain rfl) rfl (still_as rfl opd_const) ?_
            refine OD.wk (Wk.as_ (n := 74) (l' := [(2, _), (3, _), (4, _)]) (S' := [⟨b2, 30, 3, [_, _, _]⟩]) rfl rfl ⟨lk, lk, lk, trivial⟩) ?_
            refine OD.nil ?_
            refine CD.ret ?_
            refine ⟨.inr rfl, _, [], List.nil_sublist _, ret_three Tryd.results17 (res_cells (k := 0) (ds := [_, _, _]) (Nat.le_of_ble_eq_true rfl) lk rfl rfl Tryd.isAgg30 Tryd.sizeOf30 rfl rfl) (res_tmp (Nat.le_of_ble_eq_true rfl) lk) (res_tmp (Nat.le_of_ble_eq_true rfl) lk), ?_⟩
            rw [hone]; exact ⟨rfl, rfl⟩
        · skip
          have hn1 := num_over hv
          have hone := one_num hl0 hd0 ha0
          rw [hn1] at hone
          refine OD.still (wants_plain rfl) rfl (still_mv rfl ot) ?_
          refine OD.still (wants_plain rfl) rfl (still_extract rfl ot rfl) ?_
          refine OD.still (wants_plain rfl) rfl (still_extract rfl ot rfl) ?_
          refine OD.still (wants_plain rfl) rfl (still_as rfl ot) ?_
          refine OD.still (wants_plain rfl) rfl (still_as rfl ot) ?_
          refine OD.wk (Wk.as_ (n := 74) (l' := [(2, _), (6, _), (7, _), (8, _)]) (S' := [⟨b2, 30, 3, [_, _, _]⟩]) rfl rfl ⟨lk, lk, lk, lk, trivial⟩) ?_
          refine OD.nil ?_
          refine CD.seq ?_
          refine CD.seq ?_
          refine CD.region ?_
          refine OD.still (wants_plain rfl) rfl (still_mv rfl ot) ?_
          refine OD.still (wants_plain rfl) rfl (still_errYes rfl ot Tryd.underlying54) ?_
          refine OD.wk (Wk.as_ (n := 74) (l' := [(2, _), (6, _), (7, _), (47, _)]) (S' := [⟨b2, 30, 3, [_, _, _]⟩]) rfl rfl ⟨lk, lk, lk, lk, trivial⟩) ?_
          refine OD.nil ?_
          refine CD.cond ot (fun hc3 => ?_) (fun hc3 => ?_)
          · have hc3' := hc3
            (try simp only [decide_eq_true_eq, decide_eq_false_iff_not, beq_iff_eq, bne_iff_ne, Bool.not_eq_true', Bool.not_eq_false', Bool.not_eq_true, Bool.not_eq_false, beq_eq_false_iff_ne, ne_eq, bne_eq_false_iff_eq, Bool.and_eq_true, Bool.or_eq_true, Bool.not_not, Bool.and_eq_false_iff, Bool.or_eq_false_iff, Int.not_lt, Int.not_le] at hc3')
            refine CD.seq ?_
            refine CD.region ?_
            refine OD.still (wants_plain rfl) rfl (still_bld (pl := []) (ds := [_, _, _]) rfl Tryd.zeroValue30 Tryd.runUnderlying30 places30_Lx1 trivial rfl rfl) ?_
            refine OD.store (k := 0) (cs' := [_, _, _]) (wants_plain rfl) rfl rfl ot rfl rfl ot rfl rfl Tryd.sizeOf30 rfl rfl rfl ?_
            refine OD.still (wants_plain rfl) rfl (still_as rfl opd_const) ?_
            refine OD.still (wants_plain rfl) rfl (still_as rfl opd_const) ?_
            refine OD.wk (Wk.as_ (n := 74) (l' := [(2, _), (3, _), (4, _)]) (S' := [⟨b2, 30, 3, [_, _, _]⟩]) rfl rfl ⟨lk, lk, lk, trivial⟩) ?_
            refine OD.nil ?_
            refine CD.ret ?_
            refine ⟨.inr rfl, _, [], List.nil_sublist _, ret_three Tryd.results17 (res_cells (k := 0) (ds := [_, _, _]) (Nat.le_of_ble_eq_true rfl) lk rfl rfl Tryd.isAgg30 Tryd.sizeOf30 rfl rfl) (res_tmp (Nat.le_of_ble_eq_true rfl) lk) (res_tmp (Nat.le_of_ble_eq_true rfl) lk), ?_⟩
            rw [hone]; exact ⟨rfl, rfl⟩
          · exact absurd hc3 (by simp at hc3)
    · have hc1' := hc1
      (try simp only [decide_eq_true_eq, decide_eq_false_iff_not, beq_iff_eq, bne_iff_ne, Bool.not_eq_true', Bool.not_eq_false', Bool.not_eq_true, Bool.not_eq_false, beq_eq_false_iff_ne, ne_eq, bne_eq_false_iff_eq, Bool.and_eq_true, Bool.or_eq_true, Bool.not_not, Bool.and_eq_false_iff, Bool.or_eq_false_iff, Int.not_lt, Int.not_le] at hc1')
      have hd0 : digitB (byteAt s 0) = false := hc1
      refine CD.seq ?_
      refine CD.region ?_
      refine OD.still (wants_plain rfl) rfl (still_mv rfl ot) ?_
      refine OD.still (wants_plain rfl) rfl (still_sidx (c := byteAt s 0) rfl ot opd_const Tryd.runUnderlying9 rfl (str_at h0)) ?_
      refine OD.still (wants_plain rfl) rfl (still_bin rfl ot opd_const bin_eql) ?_
      refine OD.still (wants_plain rfl) rfl (still_as rfl ot) ?_
      refine OD.wk (Wk.as_ (n := 74) (l' := [(0, _), (2, _), (52, _)]) (S' := [⟨b2, 30, 3, [_, _, _]⟩]) rfl rfl ⟨lk, lk, lk, trivial⟩) ?_
      refine OD.nil ?_
      refine CD.cond ot (fun hc4 => ?_) (fun hc4 => ?_)
      · have hc4' := hc4
        (try simp only [decide_eq_true_eq, decide_eq_false_iff_not, beq_iff_eq, bne_iff_ne, Bool.not_eq_true', Bool.not_eq_false', Bool.not_eq_true, Bool.not_eq_false, beq_eq_false_iff_ne, ne_eq, bne_eq_false_iff_eq, Bool.and_eq_true, Bool.or_eq_true, Bool.not_not, Bool.and_eq_false_iff, Bool.or_eq_false_iff, Int.not_lt, Int.not_le] at hc4')
        have hq : byteAt s 0 = 39 := UInt8.toNat_inj.1 (by simp at hc4; show (byteAt s 0).toNat = 39; omega)
        have hone := one_text hl0 hd0 hq
        refine CD.seq ?_
        refine CD.region ?_
        refine OD.still (wants_plain rfl) rfl (still_mv rfl ot) ?_
        refine OD.callP (wants_plain rfl) rfl rfl rfl Tryd.call29 (text_vp s hs) ⟨ot, trivial⟩ ?_
        refine OD.still (wants_plain rfl) rfl (still_extract rfl ot rfl) ?_
        refine OD.still (wants_plain rfl) rfl (still_extract rfl ot rfl) ?_
        refine OD.still (wants_plain rfl) rfl (still_extract rfl ot rfl) ?_
        refine OD.store (k := 0) (cs' := [_, _, _]) (wants_plain rfl) rfl rfl ot rfl rfl ot rfl rfl Tryd.sizeOf30 rfl rfl rfl ?_
        refine OD.still (wants_plain rfl) rfl (still_as rfl ot) ?_
        refine OD.still (wants_plain rfl) rfl (still_as rfl ot) ?_
        refine OD.wk (Wk.as_ (n := 74) (l' := [(2, _), (3, _), (4, _)]) (S' := [⟨b2, 30, 3, [_, _, _]⟩]) rfl rfl ⟨lk, lk, lk, trivial⟩) ?_
        refine OD.nil ?_
        refine CD.ret ?_
        refine ⟨.inr rfl, _, [], List.nil_sublist _, ret_three Tryd.results17 (res_cells (k := 0) (ds := [_, _, _]) (Nat.le_of_ble_eq_true rfl) lk rfl rfl Tryd.isAgg30 Tryd.sizeOf30 rfl rfl) (res_tmp (Nat.le_of_ble_eq_true rfl) lk) (res_tmp (Nat.le_of_ble_eq_true rfl) lk), ?_⟩
        rw [hone]; exact ⟨rfl, rfl⟩
      · have hc4' := hc4
        (try simp only [decide_eq_true_eq, decide_eq_false_iff_not, beq_iff_eq, bne_iff_ne, Bool.not_eq_true', Bool.not_eq_false', Bool.not_eq_true, Bool.not_eq_false, beq_eq_false_iff_ne, ne_eq, bne_eq_false_iff_eq, Bool.and_eq_true, Bool.or_eq_true, Bool.not_not, Bool.and_eq_false_iff, Bool.or_eq_false_iff, Int.not_lt, Int.not_le] at hc4')
        have hq : byteAt s 0 ≠ 39 := fun e => by rw [e] at hc4; simp at hc4
        have hone := one_mark hl0 hd0 hq
        refine CD.skip ?_
        refine CD.seq ?_
        refine CD.seq ?_
        refine CD.region ?_
        refine OD.still (wants_plain rfl) rfl (still_r1 (mk := Op.load 62) rfl opd_glob (ld_tabs hm Tryd.isAgg62 Tryd.sizeOf62 rfl)) ?_
        refine OD.still (wants_plain rfl) rfl (still_mv rfl opd_const) ?_
        refine OD.wk (Wk.as_ (n := 74) (l' := [(0, _), (2, _), (61, _), (62, _)]) (S' := [⟨b2, 30, 3, [_, _, _]⟩]) rfl rfl ⟨lk, lk, lk, lk, trivial⟩) ?_
        refine OD.nil ?_
        refine CD.block ?_
        refine CD.wk (Wk.asS (n := 74) (l' := [(0, .v (.string s)), (2, .v (.pointer (some ⟨b2, 0, none⟩))), (61, .agg (marksC.map .v)), (62, .v (.int .i64 ((0) : Nat)))]) (S' := [⟨b2, 30, 3, cT noTk⟩]) rfl (by repeat (first | exact List.Sublist.refl _ | apply List.Sublist.cons)) ⟨(by (repeat (first | exact look_hit | (apply look_at; focus (first | rfl | (simp; done) | (congr 2; omega))) | (apply look_miss; focus rfl))); done), (by (repeat (first | exact look_hit | (apply look_at; focus (first | rfl | (simp; done) | (congr 2; omega))) | (apply look_miss; focus rfl))); done), (by (repeat (first | exact look_hit | (apply look_at; focus (first | rfl | (simp; done) | (congr 2; omega))) | (apply look_miss; focus rfl))); done), (by (repeat (first | exact look_hit | (apply look_at; focus (first | rfl | (simp; done) | (congr 2; omega))) | (apply look_miss; focus rfl))); done), trivial⟩) (CD.loop (fun (k : Nat) y__ => (k ≤ 12) ∧ (∀ m ∈ marksB.take k, m.isPrefixOf s.data.toList = false) ∧ y__ = (⟨74, [(0, .v (.string s)), (2, .v (.pointer (some ⟨b2, 0, none⟩))), (61, .agg (marksC.map .v)), (62, .v (.int .i64 (k : Nat)))], [⟨b2, 30, 3, cT noTk⟩]⟩ : St)) (fun (k : Nat) => 12 - k) 0 ⟨(Nat.zero_le _), (by simp), rfl⟩ ?_)
        rintro k _ ⟨hk, hno, rfl⟩
        refine CD.seq ?_
        refine CD.region ?_
        refine OD.still (wants_plain rfl) rfl (still_bin rfl ot opd_const bin_lss) ?_
        refine OD.wk (Wk.as_ (n := 74) (l' := [(0, _), (2, _), (61, _), (62, _), (63, _)]) (S' := [⟨b2, 30, 3, [_, _, _]⟩]) rfl rfl ⟨lk, lk, lk, lk, lk, trivial⟩) ?_
        refine OD.nil ?_
        refine CD.seq ?_
        refine CD.cond ot (fun hc5 => ?_) (fun hc5 => ?_)
        · have hc5' := hc5
          (try simp only [decide_eq_true_eq, decide_eq_false_iff_not, beq_iff_eq, bne_iff_ne, Bool.not_eq_true', Bool.not_eq_false', Bool.not_eq_true, Bool.not_eq_false, beq_eq_false_iff_ne, ne_eq, bne_eq_false_iff_eq, Bool.and_eq_true, Bool.or_eq_true, Bool.not_not, Bool.and_eq_false_iff, Bool.or_eq_false_iff, Int.not_lt, Int.not_le] at hc5')
          have hk12 : k < 12 := by omega
          have hkm : k < marksB.length := hk12
          refine CD.skip ?_
          refine CD.seq ?_
          refine CD.block ?_
          refine CD.seq ?_
          refine CD.region ?_
          refine OD.still (wants_plain rfl) rfl (still_vidx (j := k) rfl ot ot Tryd.runUnderlying62 Tryd.sizeOf9 Tryd.isAgg9 rfl (by omega) (marks_at hkm)) ?_
          refine OD.still (wants_plain rfl) rfl (still_as rfl ot) ?_
          refine OD.wk (Wk.as_ (n := 74) (l' := [(0, _), (2, _), (10, _), (61, _), (62, _)]) (S' := [⟨b2, 30, 3, [_, _, _]⟩]) rfl rfl ⟨lk, lk, lk, lk, lk, trivial⟩) ?_
          refine OD.nil ?_
          refine CD.seq ?_
          refine CD.region ?_
          refine OD.still (wants_plain rfl) rfl (still_mv rfl ot) ?_
          refine OD.still (wants_plain rfl) rfl (still_mv rfl ot) ?_
          refine OD.callP (wants_plain rfl) rfl rfl rfl Tryd.call30 (pref_vp _ _) ⟨ot, ot, trivial⟩ ?_
          refine OD.wk (Wk.as_ (n := 74) (l' := [(0, _), (2, _), (10, _), (61, _), (62, _), (67, _)]) (S' := [⟨b2, 30, 3, [_, _, _]⟩]) rfl rfl ⟨lk, lk, lk, lk, lk, lk, trivial⟩) ?_
          refine OD.nil ?_
          refine CD.cond ot (fun hc6 => ?_) (fun hc6 => ?_)
          · have hc6' := hc6
            (try simp only [decide_eq_true_eq, decide_eq_false_iff_not, beq_iff_eq, bne_iff_ne, Bool.not_eq_true', Bool.not_eq_false', Bool.not_eq_true, Bool.not_eq_false, beq_eq_false_iff_ne, ne_eq, bne_eq_false_iff_eq, Bool.and_eq_true, Bool.or_eq_true, Bool.not_not, Bool.and_eq_false_iff, Bool.or_eq_false_iff, Int.not_lt, Int.not_le] at hc6')
            have hmk := mark_hit hkm hno hc6
            rw [hmk] at hone
            refine CD.seq ?_
            refine CD.region ?_
            refine OD.still (wants_plain rfl) rfl (still_mv rfl ot) ?_
            refine OD.still (wants_plain rfl) rfl (still_bld (pl := [(0, _), (1, _)]) (ds := [_, _, _]) rfl Tryd.zeroValue30 Tryd.runUnderlying30 places30_Lx1 ⟨rfl, opd_const, rfl, ot, trivial⟩ rfl rfl) ?_
            refine OD.still (wants_plain rfl) rfl (still_mv rfl ot) ?_
            refine OD.still (wants_plain rfl) rfl (still_slen rfl rfl ot Tryd.runUnderlying9) ?_
            refine OD.store (k := 0) (cs' := [_, _, _]) (wants_plain rfl) rfl rfl ot rfl rfl ot rfl rfl Tryd.sizeOf30 rfl rfl rfl ?_
            refine OD.still (wants_plain rfl) rfl (still_as rfl ot) ?_
            refine OD.still (wants_plain rfl) rfl (still_as rfl opd_const) ?_
            refine OD.wk (Wk.as_ (n := 74) (l' := [(2, _), (3, _), (4, _)]) (S' := [⟨b2, 30, 3, [_, _, _]⟩]) rfl rfl ⟨lk, lk, lk, trivial⟩) ?_
            refine OD.nil ?_
            refine CD.ret ?_
            refine ⟨.inr rfl, _, [], List.nil_sublist _, ret_three Tryd.results17 (res_cells (k := 0) (ds := [_, _, _]) (Nat.le_of_ble_eq_true rfl) lk rfl rfl Tryd.isAgg30 Tryd.sizeOf30 rfl rfl) (res_tmp (Nat.le_of_ble_eq_true rfl) lk) (res_tmp (Nat.le_of_ble_eq_true rfl) lk), ?_⟩
            rw [hone]; exact ⟨rfl, rfl⟩
          · have hc6' := hc6
            (try simp only [decide_eq_true_eq, decide_eq_false_iff_not, beq_iff_eq, bne_iff_ne, Bool.not_eq_true', Bool.not_eq_false', Bool.not_eq_true, Bool.not_eq_false, beq_eq_false_iff_ne, ne_eq, bne_eq_false_iff_eq, Bool.and_eq_true, Bool.or_eq_true, Bool.not_not, Bool.and_eq_false_iff, Bool.or_eq_false_iff, Int.not_lt, Int.not_le] at hc6')
            refine CD.skip ?_
            refine CD.region ?_
            refine OD.still (wants_plain rfl) rfl (still_bin rfl ot opd_const (bin_add (wrap_i64 (by omega) (by omega)))) ?_
            refine OD.still (wants_plain rfl) rfl (still_mv rfl ot) ?_
            refine OD.wk (Wk.as_ (n := 74) (l' := [(0, _), (2, _), (61, _), (62, _)]) (S' := [⟨b2, 30, 3, [_, _, _]⟩]) rfl rfl ⟨lk, lk, lk, lk, trivial⟩) ?_
            refine OD.nil ?_
            refine ⟨(k + 1), ⟨74, [(0, .v (.string s)), (2, .v (.pointer (some ⟨b2, 0, none⟩))), (61, .agg (marksC.map .v)), (62, .v (.int .i64 (((k + 1)) : Nat)))], [⟨b2, 30, 3, cT noTk⟩]⟩, ?_, Wk.asS (n := 74) rfl (by repeat (first | exact List.Sublist.refl _ | apply List.Sublist.cons)) ⟨(by (repeat (first | exact look_hit | (apply look_at; focus (first | rfl | (simp; done) | (congr 2; omega))) | (apply look_miss; focus rfl))); done), (by (repeat (first | exact look_hit | (apply look_at; focus (first | rfl | (simp; done) | (congr 2; omega))) | (apply look_miss; focus rfl))); done), (by (repeat (first | exact look_hit | (apply look_at; focus (first | rfl | (simp; done) | (congr 2; omega))) | (apply look_miss; focus rfl))); done), (by (repeat (first | exact look_hit | (apply look_at; focus (first | rfl | (simp; done) | (congr 2; omega))) | (apply look_miss; focus rfl))); done), trivial⟩, (by omega), (all_step (p := fun m => m.isPrefixOf s.data.toList = false) hkm hno hc6), rfl⟩
            first | omega | (simp only []; omega)
        · have hc5' := hc5
          (try simp only [decide_eq_true_eq, decide_eq_false_iff_not, beq_iff_eq, bne_iff_ne, Bool.not_eq_true', Bool.not_eq_false', Bool.not_eq_true, Bool.not_eq_false, beq_eq_false_iff_ne, ne_eq, bne_eq_false_iff_eq, Bool.and_eq_true, Bool.or_eq_true, Bool.not_not, Bool.and_eq_false_iff, Bool.or_eq_false_iff, Int.not_lt, Int.not_le] at hc5')
          have hk12 : k = 12 := by omega
          subst hk12
          have hmk := mark_none hno
          rw [hmk] at hone
          refine CD.exit ?_
          refine CD.seq ?_
          refine CD.region ?_
          refine OD.still (wants_plain rfl) rfl (still_bld (pl := []) (ds := [_, _, _]) rfl Tryd.zeroValue30 Tryd.runUnderlying30 places30_Lx1 trivial rfl rfl) ?_
          refine OD.store (k := 0) (cs' := [_, _, _]) (wants_plain rfl) rfl rfl ot rfl rfl ot rfl rfl Tryd.sizeOf30 rfl rfl rfl ?_
          refine OD.still (wants_plain rfl) rfl (still_as rfl opd_const) ?_
          refine OD.still (wants_plain rfl) rfl (still_as rfl opd_const) ?_
          refine OD.wk (Wk.as_ (n := 74) (l' := [(2, _), (3, _), (4, _)]) (S' := [⟨b2, 30, 3, [_, _, _]⟩]) rfl rfl ⟨lk, lk, lk, trivial⟩) ?_
          refine OD.nil ?_
          refine CD.ret ?_
          refine ⟨.inr rfl, _, [], List.nil_sublist _, ret_three Tryd.results17 (res_cells (k := 0) (ds := [_, _, _]) (Nat.le_of_ble_eq_true rfl) lk rfl rfl Tryd.isAgg30 Tryd.sizeOf30 rfl rfl) (res_tmp (Nat.le_of_ble_eq_true rfl) lk) (res_tmp (Nat.le_of_ble_eq_true rfl) lk), ?_⟩
          rw [hone]; exact ⟨rfl, rfl⟩

end Go.Proofs.YtdlcfkkkjklanaaDoor.Lx

namespace Go.Proofs.YtdlcfkkkjklanaaDoor.Lx
open Go.RowKit V Go.Proofs.YtdlcfkkkjklanaaDoor.Nm Go.Proofs.YtdlcfkkkjklanaaDoor.Pk
set_option linter.unusedVariables false
set_option linter.unusedSimpArgs false

def blankB (c : UInt8) : Bool := decide (c.toNat = 32 ∨ c.toNat = 9 ∨ c.toNat = 10 ∨ c.toNat = 13)
def cutG : Nat → List UInt8 → Nat → List Tk → List Tk × Nat × Int
  | 0, _, _, _ => ([], 0, 0)
  | n + 1, l, a, acc =>
    if l.dropWhile blankB = [] then (acc, 0, 0)
    else if acc.length = 100 then ([], a + (l.takeWhile blankB).length, 10)
    else if (oneF (l.dropWhile blankB)).2.2 ≠ 0 then ([], a + (l.takeWhile blankB).length, (oneF (l.dropWhile blankB)).2.2)
    else cutG n ((l.dropWhile blankB).drop (oneF (l.dropWhile blankB)).2.1) (a + (l.takeWhile blankB).length + (oneF (l.dropWhile blankB)).2.1) (acc ++ [(oneF (l.dropWhile blankB)).1])
/-- The tokens of a text; where it goes wrong, and why. -/
def cutF (l : List UInt8) : List Tk × Nat × Int := if l.length > 400 then ([], 0, 1) else cutG (l.length + 1) l 0 []
def cutD (r : List Tk × Nat × Int) : D := .tup [.list 3 (r.1.flatMap cT) r.1.length, .v (.int .i64 (r.2.1 : Nat)), .v (.int .i64 r.2.2)]
theorem text_pos : ∀ (l acc : List UInt8) (i : Nat), (textG l acc i).2.2 = 0 → i + 1 ≤ (textG l acc i).2.1 ∧ (textG l acc i).2.1 ≤ i + l.length
  | [], _, _, h => by simp [textG] at h
  | [c], acc, i, h => by
    rw [textG] at h ⊢
    by_cases hc : c = 39
    · rw [if_pos hc]; simp
    · rw [if_neg hc] at h; simp at h
  | c :: d :: r, acc, i, h => by
    rw [textG] at h ⊢
    by_cases hc : c = 39
    · rw [if_pos hc] at h ⊢
      by_cases hd : d = 39
      · rw [if_pos hd] at h ⊢
        have := text_pos r (acc ++ [39]) (i + 2) h
        simp only [List.length_cons]; omega
      · rw [if_neg hd]; simp
    · rw [if_neg hc] at h ⊢
      have := text_pos (d :: r) (acc ++ [c]) (i + 1) h
      simp only [List.length_cons] at this ⊢; omega
theorem marks_pos : ∀ m ∈ marksB, 1 ≤ m.length := by decide
theorem tw_pos {p : UInt8 → Bool} {l : List UInt8} (h : p (l.getD 0 0) = true) (h0 : l ≠ []) : 1 ≤ (l.takeWhile p).length := List.length_pos_iff.2 (takeW_ne h (List.length_pos_iff.2 h0))
/-- A token has a byte at least, and no more than there are. -/
theorem one_pos {l : List UInt8} (h0 : l ≠ []) (h : (oneF l).2.2 = 0) : 1 ≤ (oneF l).2.1 ∧ (oneF l).2.1 ≤ l.length := by
  unfold oneF at h ⊢
  by_cases h1 : letterB (l.getD 0 0) = true
  · rw [if_pos h1]
    exact ⟨tw_pos (by unfold wordB; rw [h1]; rfl) h0, (List.takeWhile_prefix _).length_le⟩
  · rw [if_neg h1] at h ⊢
    by_cases h2 : digitB (l.getD 0 0) = true
    · rw [if_pos h2] at h ⊢
      by_cases h3 : afterL l = true
      · rw [if_pos h3] at h; simp at h
      · rw [if_neg h3] at h ⊢
        unfold numL at h ⊢
        rcases ha : Lib.atoiAll (l.takeWhile digitB) with v | _ | _
        · exact ⟨tw_pos h2 h0, (List.takeWhile_prefix _).length_le⟩
        · rw [ha] at h; simp at h
        · rw [ha] at h; simp at h
    · rw [if_neg h2] at h ⊢
      by_cases h3 : l.getD 0 0 = 39
      · rw [if_pos h3] at h ⊢
        have := text_pos _ _ _ h
        rw [List.length_drop] at this
        have := List.length_pos_iff.2 h0
        omega
      · rw [if_neg h3] at h ⊢
        unfold markL at h ⊢
        cases hf : marksB.find? (fun m => m.isPrefixOf l) with
        | none => rw [hf] at h; simp at h
        | some m =>
          have hp : m.isPrefixOf l = true := List.find?_some (p := fun m : List UInt8 => m.isPrefixOf l) hf
          exact ⟨marks_pos m (List.mem_of_find?_eq_some hf), (List.isPrefixOf_iff_prefix.1 hp).length_le⟩
theorem drop_span (p : UInt8 → Bool) (s : ByteArray) (a : Nat) : (s.data.toList.drop a).dropWhile p = s.data.toList.drop (a + ((s.data.toList.drop a).takeWhile p).length) := by
  have h1 := List.takeWhile_append_dropWhile (p := p) (l := s.data.toList.drop a)
  rw [← List.drop_drop]
  conv => rhs; rw [← h1]
  rw [List.takeWhile_append_dropWhile]
  have h2 : (s.data.toList.drop a).dropWhile p = ((s.data.toList.drop a).takeWhile p ++ (s.data.toList.drop a).dropWhile p).drop ((s.data.toList.drop a).takeWhile p).length := List.drop_left.symm
  rw [h1] at h2
  exact h2
theorem ext_tail (s : ByteArray) (a : Nat) : (s.extract a s.size).data.toList = s.data.toList.drop a := by
  rw [ByteArray.data_extract, Array.toList_extract]
  show (s.data.toList.drop a).take (s.size - a) = _
  exact List.take_of_length_le (by rw [List.length_drop, str_len]; exact Nat.le_refl _)
theorem ext_size (s : ByteArray) (a : Nat) : (s.extract a s.size).size = s.size - a := by rw [← str_len, ext_tail, List.length_drop, str_len]
variable {G : List (Nat × List Value)}

set_option maxHeartbeats 4000000 in
set_option maxRecDepth 100000 in
theorem blank_vp (c : UInt8) : VP Tryd.prog G 16 [.v (.int .u8 ((c).toNat : Int))] (.v (.bool (blankB c))) := by
  refine VC.body Tryd.func16 rfl Tryd.ntmps16 (Nat.le_of_ble_eq_true rfl) fun X0 w0 S00 => ?_
  refine CD.seq ?_
  refine CD.region ?_
  refine OD.still (wants_plain rfl) rfl (still_as rfl opd_const) ?_
  refine OD.wk (Wk.as_ (n := 17) (l' := [(0, _)]) (S' := []) rfl rfl ⟨lk, trivial⟩) ?_
  refine OD.nil ?_
  refine CD.seq ?_
  refine CD.region ?_
  refine OD.still (wants_plain rfl) rfl (still_mv rfl ot) ?_
  refine OD.still (wants_plain rfl) rfl (still_bin rfl ot opd_const bin_eql) ?_
  refine OD.still (wants_plain rfl) rfl (still_mv rfl ot) ?_
  refine OD.split (t := 5) lk (fun hg5 => ?_) (fun hg5 => ?_)
  · have hg5' := hg5; (try simp only [decide_eq_true_eq, decide_eq_false_iff_not, beq_iff_eq, bne_iff_ne, Bool.not_eq_true', Bool.not_eq_false', Bool.not_eq_true, Bool.not_eq_false, beq_eq_false_iff_ne, ne_eq, bne_eq_false_iff_eq, Bool.and_eq_true, Bool.or_eq_true, Bool.not_not] at hg5')
    refine OD.skip (wants_F rfl rfl rfl lk (by first | rfl | assumption)) rfl ?_
    refine OD.skip (wants_F rfl rfl rfl lk (by first | rfl | assumption)) rfl ?_
    refine OD.still (wants_plain rfl) rfl (still_pickT rfl ot (by first | rfl | assumption) opd_const) ?_
    refine OD.still (wants_plain rfl) rfl (still_mv rfl ot) ?_
    refine OD.skip (wants_F rfl rfl rfl lk (by first | rfl | assumption)) rfl ?_
    refine OD.skip (wants_F rfl rfl rfl lk (by first | rfl | assumption)) rfl ?_
    refine OD.still (wants_plain rfl) rfl (still_pickT rfl ot (by first | rfl | assumption) opd_const) ?_
    refine OD.still (wants_plain rfl) rfl (still_mv rfl ot) ?_
    refine OD.skip (wants_F rfl rfl rfl lk (by first | rfl | assumption)) rfl ?_
    refine OD.skip (wants_F rfl rfl rfl lk (by first | rfl | assumption)) rfl ?_
    refine OD.still (wants_plain rfl) rfl (still_pickT rfl ot (by first | rfl | assumption) opd_const) ?_
    refine OD.still (wants_plain rfl) rfl (still_as rfl ot) ?_
    refine OD.wk (Wk.as_ (n := 17) (l' := [(2, _)]) (S' := []) rfl rfl ⟨lk, trivial⟩) ?_
    refine OD.nil ?_
    refine CD.ret ?_
    refine ⟨.inr rfl, _, [], List.nil_sublist _, ret_one Tryd.results16 (res_tmp (Nat.le_of_ble_eq_true rfl) lk), ?_⟩
    refine ⟨vb ?_, rfl⟩
    rw [Bool.eq_iff_iff]
    simp [blankB]
    simp at *
    first | done | omega
  · have hg5' := hg5; (try simp only [decide_eq_true_eq, decide_eq_false_iff_not, beq_iff_eq, bne_iff_ne, Bool.not_eq_true', Bool.not_eq_false', Bool.not_eq_true, Bool.not_eq_false, beq_eq_false_iff_ne, ne_eq, bne_eq_false_iff_eq, Bool.and_eq_true, Bool.or_eq_true, Bool.not_not] at hg5')
    refine OD.still (wants_T rfl rfl rfl lk (by first | rfl | assumption)) rfl (still_mv rfl ot) ?_
    refine OD.still (wants_T rfl rfl rfl lk (by first | rfl | assumption)) rfl (still_bin rfl ot opd_const bin_eql) ?_
    refine OD.still (wants_plain rfl) rfl (still_pickF rfl ot (by first | rfl | assumption) ot) ?_
    refine OD.still (wants_plain rfl) rfl (still_mv rfl ot) ?_
    refine OD.split (t := 9) lk (fun hg9 => ?_) (fun hg9 => ?_)
    · have hg9' := hg9; (try simp only [decide_eq_true_eq, decide_eq_false_iff_not, beq_iff_eq, bne_iff_ne, Bool.not_eq_true', Bool.not_eq_false', Bool.not_eq_true, Bool.not_eq_false, beq_eq_false_iff_ne, ne_eq, bne_eq_false_iff_eq, Bool.and_eq_true, Bool.or_eq_true, Bool.not_not] at hg9')
      refine OD.skip (wants_F rfl rfl rfl lk (by first | rfl | assumption)) rfl ?_
      refine OD.skip (wants_F rfl rfl rfl lk (by first | rfl | assumption)) rfl ?_
      refine OD.still (wants_plain rfl) rfl (still_pickT rfl ot (by first | rfl | assumption) opd_const) ?_
      refine OD.still (wants_plain rfl) rfl (still_mv rfl ot) ?_
      refine OD.skip (wants_F rfl rfl rfl lk (by first | rfl | assumption)) rfl ?_
      refine OD.skip (wants_F rfl rfl rfl lk (by first | rfl | assumption)) rfl ?_
      refine OD.still (wants_plain rfl) rfl (still_pickT rfl ot (by first | rfl | assumption) opd_const) ?_
      refine OD.still (wants_plain rfl) rfl (still_as rfl ot) ?_
      refine OD.wk (Wk.as_ (n := 17) (l' := [(2, _)]) (S' := []) rfl rfl ⟨lk, trivial⟩) ?_
      refine OD.nil ?_
      refine CD.ret ?_
      refine ⟨.inr rfl, _, [], List.nil_sublist _, ret_one Tryd.results16 (res_tmp (Nat.le_of_ble_eq_true rfl) lk), ?_⟩
      refine ⟨vb ?_, rfl⟩
      rw [Bool.eq_iff_iff]
      simp [blankB]
      simp at *
      first | done | omega
    · have hg9' := hg9; (try simp only [decide_eq_true_eq, decide_eq_false_iff_not, beq_iff_eq, bne_iff_ne, Bool.not_eq_true', Bool.not_eq_false', Bool.not_eq_true, Bool.not_eq_false, beq_eq_false_iff_ne, ne_eq, bne_eq_false_iff_eq, Bool.and_eq_true, Bool.or_eq_true, Bool.not_not] at hg9')
      refine OD.still (wants_T rfl rfl rfl lk (by first | rfl | assumption)) rfl (still_mv rfl ot) ?_
      refine OD.still (wants_T rfl rfl rfl lk (by first | rfl | assumption)) rfl (still_bin rfl ot opd_const bin_eql) ?_
      refine OD.still (wants_plain rfl) rfl (still_pickF rfl ot (by first | rfl | assumption) ot) ?_
      refine OD.still (wants_plain rfl) rfl (still_mv rfl ot) ?_
      refine OD.split (t := 13) lk (fun hg13 => ?_) (fun hg13 => ?_)
      · have hg13' := hg13; (try simp only [decide_eq_true_eq, decide_eq_false_iff_not, beq_iff_eq, bne_iff_ne, Bool.not_eq_true', Bool.not_eq_false', Bool.not_eq_true, Bool.not_eq_false, beq_eq_false_iff_ne, ne_eq, bne_eq_false_iff_eq, Bool.and_eq_true, Bool.or_eq_true, Bool.not_not] at hg13')
        refine OD.skip (wants_F rfl rfl rfl lk (by first | rfl | assumption)) rfl ?_
        refine OD.skip (wants_F rfl rfl rfl lk (by first | rfl | assumption)) rfl ?_
        refine OD.still (wants_plain rfl) rfl (still_pickT rfl ot (by first | rfl | assumption) opd_const) ?_
        refine OD.still (wants_plain rfl) rfl (still_as rfl ot) ?_
        refine OD.wk (Wk.as_ (n := 17) (l' := [(2, _)]) (S' := []) rfl rfl ⟨lk, trivial⟩) ?_
        refine OD.nil ?_
        refine CD.ret ?_
        refine ⟨.inr rfl, _, [], List.nil_sublist _, ret_one Tryd.results16 (res_tmp (Nat.le_of_ble_eq_true rfl) lk), ?_⟩
        refine ⟨vb ?_, rfl⟩
        rw [Bool.eq_iff_iff]
        simp [blankB]
        simp at *
        first | done | omega
      · have hg13' := hg13; (try simp only [decide_eq_true_eq, decide_eq_false_iff_not, beq_iff_eq, bne_iff_ne, Bool.not_eq_true', Bool.not_eq_false', Bool.not_eq_true, Bool.not_eq_false, beq_eq_false_iff_ne, ne_eq, bne_eq_false_iff_eq, Bool.and_eq_true, Bool.or_eq_true, Bool.not_not] at hg13')
        refine OD.still (wants_T rfl rfl rfl lk (by first | rfl | assumption)) rfl (still_mv rfl ot) ?_
        refine OD.still (wants_T rfl rfl rfl lk (by first | rfl | assumption)) rfl (still_bin rfl ot opd_const bin_eql) ?_
        refine OD.still (wants_plain rfl) rfl (still_pickF rfl ot (by first | rfl | assumption) ot) ?_
        refine OD.still (wants_plain rfl) rfl (still_as rfl ot) ?_
        refine OD.wk (Wk.as_ (n := 17) (l' := [(2, _)]) (S' := []) rfl rfl ⟨lk, trivial⟩) ?_
        refine OD.nil ?_
        refine CD.ret ?_
        refine ⟨.inr rfl, _, [], List.nil_sublist _, ret_one Tryd.results16 (res_tmp (Nat.le_of_ble_eq_true rfl) lk), ?_⟩
        refine ⟨vb ?_, rfl⟩
        rw [Bool.eq_iff_iff]
        simp [blankB]
        simp at *
        first | done | omega

theorem cut_end {n a : Nat} {l : List UInt8} {acc : List Tk} (h : l.dropWhile blankB = []) : cutG (n + 1) l a acc = (acc, 0, 0) := by rw [cutG, if_pos h]
theorem cut_full {n a : Nat} {l : List UInt8} {acc : List Tk} (h : l.dropWhile blankB ≠ []) (h1 : acc.length = 100) : cutG (n + 1) l a acc = ([], a + (l.takeWhile blankB).length, 10) := by rw [cutG, if_neg h, if_pos h1]
theorem cut_err {n a : Nat} {l : List UInt8} {acc : List Tk} (h : l.dropWhile blankB ≠ []) (h1 : acc.length ≠ 100) (h2 : (oneF (l.dropWhile blankB)).2.2 ≠ 0) : cutG (n + 1) l a acc = ([], a + (l.takeWhile blankB).length, (oneF (l.dropWhile blankB)).2.2) := by rw [cutG, if_neg h, if_neg h1, if_pos h2]
theorem cut_next {n a : Nat} {l : List UInt8} {acc : List Tk} (h : l.dropWhile blankB ≠ []) (h1 : acc.length ≠ 100) (h2 : (oneF (l.dropWhile blankB)).2.2 = 0) : cutG (n + 1) l a acc = cutG n ((l.dropWhile blankB).drop (oneF (l.dropWhile blankB)).2.1) (a + (l.takeWhile blankB).length + (oneF (l.dropWhile blankB)).2.1) (acc ++ [(oneF (l.dropWhile blankB)).1]) := by rw [cutG, if_neg h, if_neg h1, if_neg (by simpa using h2)]
theorem tail_ne {s : ByteArray} {a : Nat} (h : a < s.size) : s.data.toList.drop a ≠ [] := fun e => by
  have := congrArg List.length e
  rw [List.length_drop, str_len] at this
  simp at this; omega

theorem info30_Lx2 : (Tryd.prog.info? 30).map (fun i => (i.zero, i.size, i.bytes)) = some (some (.agg #[.int .i64 0, .string ⟨#[]⟩, .int .i64 0]), 3, 32) := by kernel_rfl

set_option maxHeartbeats 4000000 in
set_option maxRecDepth 100000 in
theorem cut_vp (hm : (0, marksC) ∈ G) (s : ByteArray) (hs : s.size ≤ maxLen) (hov : (cutF s.data.toList).2.2 = 5 → RangeVar G) : VP Tryd.prog G 10 [.v (.string s)] (cutD (cutF s.data.toList)) := by
  refine VC.body Tryd.func10 rfl Tryd.ntmps10 (Nat.le_of_ble_eq_true rfl) fun X0 w0 S00 => ?_
  have hmx : maxLen = 9223372036854775807 := rfl
  have hsl := str_len s
  refine CD.seq ?_
  refine CD.region ?_
  refine OD.still (wants_plain rfl) rfl (still_as rfl opd_const) ?_
  refine OD.still (wants_plain rfl) rfl (still_as rfl opd_const) ?_
  refine OD.still (wants_plain rfl) rfl (still_as rfl opd_const) ?_
  refine OD.wk (Wk.as_ (n := 47) (l' := [(0, _)]) (S' := []) rfl rfl ⟨lk, trivial⟩) ?_
  refine OD.nil ?_
  refine CD.seq ?_
  refine CD.seq ?_
  refine CD.region ?_
  refine OD.still (wants_plain rfl) rfl (still_mv rfl ot) ?_
  refine OD.still (wants_plain rfl) rfl (still_slen rfl rfl ot Tryd.runUnderlying9) ?_
  refine OD.still (wants_plain rfl) rfl (still_bin rfl ot opd_const bin_gtr) ?_
  refine OD.wk (Wk.as_ (n := 47) (l' := [(0, _), (12, _)]) (S' := []) rfl rfl ⟨lk, lk, trivial⟩) ?_
  refine OD.nil ?_
  refine CD.cond ot (fun hc0 => ?_) (fun hc0 => ?_)
  · have hc0' := hc0
    (try simp only [decide_eq_true_eq, decide_eq_false_iff_not, beq_iff_eq, bne_iff_ne, Bool.not_eq_true', Bool.not_eq_false', Bool.not_eq_true, Bool.not_eq_false, beq_eq_false_iff_ne, ne_eq, bne_eq_false_iff_eq, Bool.and_eq_true, Bool.or_eq_true, Bool.not_not, Bool.and_eq_false_iff, Bool.or_eq_false_iff, Int.not_lt, Int.not_le] at hc0')
    have hbig : cutF s.data.toList = ([], 0, 1) := by unfold cutF; rw [if_pos (by omega)]
    refine CD.seq ?_
    refine CD.region ?_
    refine OD.still (wants_plain rfl) rfl (still_as rfl opd_const) ?_
    refine OD.still (wants_plain rfl) rfl (still_as rfl opd_const) ?_
    refine OD.still (wants_plain rfl) rfl (still_as rfl opd_const) ?_
    refine OD.wk (Wk.as_ (n := 47) (l' := [(2, _), (3, _), (4, _)]) (S' := []) rfl rfl ⟨lk, lk, lk, trivial⟩) ?_
    refine OD.nil ?_
    refine CD.wk (Wk.giveNil (t := 2) (sz := 3) lk) ?_
    refine CD.ret ?_
    refine ⟨.inr rfl, _, [], List.nil_sublist _, ret_three Tryd.results10 (res_tmp (Nat.le_of_ble_eq_true rfl) lk) (res_tmp (Nat.le_of_ble_eq_true rfl) lk) (res_tmp (Nat.le_of_ble_eq_true rfl) lk), ?_⟩
    first | (rw [hbig]; exact ⟨rfl, rfl⟩) | (rw [hcf, hce]; exact ⟨rfl, rfl⟩)
  · have hc0' := hc0
    (try simp only [decide_eq_true_eq, decide_eq_false_iff_not, beq_iff_eq, bne_iff_ne, Bool.not_eq_true', Bool.not_eq_false', Bool.not_eq_true, Bool.not_eq_false, beq_eq_false_iff_ne, ne_eq, bne_eq_false_iff_eq, Bool.and_eq_true, Bool.or_eq_true, Bool.not_not, Bool.and_eq_false_iff, Bool.or_eq_false_iff, Int.not_lt, Int.not_le] at hc0')
    have hcf : cutF s.data.toList = cutG (s.data.toList.length + 1) s.data.toList 0 [] := by unfold cutF; rw [if_neg (by omega)]
    rw [hcf] at hov
    refine CD.skip ?_
    refine CD.seq ?_
    refine CD.region ?_
    refine OD.still (wants_plain rfl) rfl (still_as rfl opd_const) ?_
    refine OD.wk (Wk.as_ (n := 47) (l' := [(0, _), (5, _)]) (S' := ([])) rfl rfl ⟨lk, lk, trivial⟩) ?_
    refine OD.nil ?_
    refine CD.seq ?_
    refine CD.region ?_
    refine OD.still (wants_plain rfl) rfl (still_as rfl opd_const) ?_
    refine OD.wk (Wk.as_ (n := 47) (l' := [(0, _), (5, _), (6, _)]) (S' := ([])) rfl rfl ⟨lk, lk, lk, trivial⟩) ?_
    refine OD.nil ?_
    refine CD.block ?_
    refine CD.wk (Wk.asS (n := 47) (l' := [(0, .v (.string s)), (5, .v (.slice none (([])).length (0))), (6, .v (.int .i64 ((0) : Nat)))]) (S' := (([]))) rfl (by repeat (first | exact List.Sublist.refl _ | apply List.Sublist.cons_cons | apply List.Sublist.cons)) ⟨(by (repeat (first | exact look_hit | (apply look_at; focus (first | rfl | (simp; done) | (congr 2; omega) | (apply row_eq; simp; done))) | (apply look_miss; focus rfl))); done), (by (repeat (first | exact look_hit | (apply look_at; focus (first | rfl | (simp; done) | (congr 2; omega) | (apply row_eq; simp; done))) | (apply look_miss; focus rfl))); done), (by (repeat (first | exact look_hit | (apply look_at; focus (first | rfl | (simp; done) | (congr 2; omega) | (apply row_eq; simp; done))) | (apply look_miss; focus rfl))); done), trivial⟩) (CD.loop (fun (gh__ : Nat × Nat × List Tk × Option Addr × Nat × List Blk) y__ => match gh__ with | (n, a, acc, adl, cpl, Sl) => (a ≤ s.size) ∧ (s.size - a < n) ∧ (cutG n (s.data.toList.drop a) a acc = cutG (s.data.toList.length + 1) s.data.toList 0 []) ∧ (acc.length ≤ 100) ∧ (OwnL 30 3 ((acc).flatMap cT) (acc).length adl cpl Sl) ∧ y__ = (⟨47, [(0, .v (.string s)), (5, .v (.slice adl (acc).length cpl)), (6, .v (.int .i64 (a : Nat)))], (Sl)⟩ : St)) (fun (gh__ : Nat × Nat × List Tk × Option Addr × Nat × List Blk) => match gh__ with | (n, a, acc, adl, cpl, Sl) => n) ((s.data.toList.length + 1), 0, [], none, 0, []) ⟨(Nat.zero_le _), (by omega), (by rw [List.drop_zero]), (Nat.zero_le _), (OwnL.cast ownL_nil (by first | rfl | simp)), rfl⟩ ?_)
    rintro ⟨n, a, acc, adl, cpl, Sl⟩ _ ⟨ha, han, hc, hal, hol, rfl⟩
    obtain ⟨n, rfl⟩ : ∃ m, n = m + 1 := ⟨n - 1, by omega⟩
    have hes := ext_size s a
    have hkl := span_len blankB (s.extract a s.size)
    have hdw := drop_span blankB s a
    have hkk : ((s.data.toList.drop a).takeWhile blankB).length = (spanN blankB (s.extract a s.size)) := by unfold spanN; rw [ext_tail]
    rw [hkk] at hdw
    refine CD.block ?_
    refine CD.seq ?_
    refine CD.region ?_
    refine OD.still (wants_plain rfl) rfl (still_mv rfl ot) ?_
    refine OD.still (wants_plain rfl) rfl (still_mv rfl ot) ?_
    refine OD.still (wants_plain rfl) rfl (still_mv rfl ot) ?_
    refine OD.still (wants_plain rfl) rfl (still_rs (l := a) rfl ot ⟨_, ot⟩ trivial (by first | exact sl_str (fun h => by cases h) (fun _ => rfl) Tryd.runUnderlying9 (by omega) (by omega))) ?_
    refine OD.callP (wants_plain rfl) rfl rfl rfl Tryd.call15 (span_vp (s.extract a s.size) 16 blankB Tryd.call16 blank_vp (by omega)) ⟨ot, opd_func, trivial⟩ ?_
    refine OD.still (wants_plain rfl) rfl (still_bin (r := .int .i64 ((a + (spanN blankB (s.extract a s.size)) : Nat) : Int)) rfl ot ot (bin_add (by show IntKind.i64.wrap ((a : Int) + ((spanN blankB (s.extract a s.size)) : Nat)) = (a : Int) + ((spanN blankB (s.extract a s.size)) : Nat); exact wrap_i64 (by omega) (by omega)))) ?_
    refine OD.still (wants_plain rfl) rfl (still_as rfl ot) ?_
    refine OD.wk (Wk.as_ (n := 47) (l' := [(0, _), (5, _), (6, _)]) (S' := (Sl)) rfl rfl ⟨lk, lk, lk, trivial⟩) ?_
    refine OD.nil ?_
    refine CD.seq ?_
    refine CD.seq ?_
    refine CD.region ?_
    refine OD.still (wants_plain rfl) rfl (still_mv rfl ot) ?_
    refine OD.still (wants_plain rfl) rfl (still_mv rfl ot) ?_
    refine OD.still (wants_plain rfl) rfl (still_slen rfl rfl ot Tryd.runUnderlying9) ?_
    refine OD.still (wants_plain rfl) rfl (still_bin rfl ot ot bin_eql) ?_
    refine OD.wk (Wk.as_ (n := 47) (l' := [(0, _), (5, _), (6, _), (22, _)]) (S' := (Sl)) rfl rfl ⟨lk, lk, lk, lk, trivial⟩) ?_
    refine OD.nil ?_
    refine CD.cond ot (fun hc1 => ?_) (fun hc1 => ?_)
    · have hc1' := hc1
      (try simp only [decide_eq_true_eq, decide_eq_false_iff_not, beq_iff_eq, bne_iff_ne, Bool.not_eq_true', Bool.not_eq_false', Bool.not_eq_true, Bool.not_eq_false, beq_eq_false_iff_ne, ne_eq, bne_eq_false_iff_eq, Bool.and_eq_true, Bool.or_eq_true, Bool.not_not, Bool.and_eq_false_iff, Bool.or_eq_false_iff, Int.not_lt, Int.not_le] at hc1')
      have hend : a + (spanN blankB (s.extract a s.size)) = s.size := by omega
      have hce := cut_end (n := n) (a := a) (acc := acc) (l := s.data.toList.drop a) (by rw [hdw, hend]; exact List.drop_eq_nil_of_le (by omega))
      rw [hc] at hce
      refine CD.seq ?_
      refine CD.region ?_
      refine OD.still (wants_plain rfl) rfl (still_mv rfl ot) ?_
      refine OD.still (wants_plain rfl) rfl (still_as rfl ot) ?_
      refine OD.still (wants_plain rfl) rfl (still_as rfl opd_const) ?_
      refine OD.still (wants_plain rfl) rfl (still_as rfl opd_const) ?_
      refine OD.wk (Wk.as_ (n := 47) (l' := [(2, _), (3, _), (4, _)]) (S' := (Sl)) rfl rfl ⟨lk, lk, lk, trivial⟩) ?_
      refine OD.nil ?_
      refine CD.giveL (t := 2) (Sq := Sl) lk hol (fm_len cT_len _) (perm_r11 (A := [])) ?_
      refine CD.ret ?_
      refine ⟨.inr rfl, _, [], List.nil_sublist _, ret_three Tryd.results10 (res_tmp (Nat.le_of_ble_eq_true rfl) lk) (res_tmp (Nat.le_of_ble_eq_true rfl) lk) (res_tmp (Nat.le_of_ble_eq_true rfl) lk), ?_⟩
      first | (rw [hbig]; exact ⟨rfl, rfl⟩) | (rw [hcf, hce]; exact ⟨rfl, rfl⟩)
    · have hc1' := hc1
      (try simp only [decide_eq_true_eq, decide_eq_false_iff_not, beq_iff_eq, bne_iff_ne, Bool.not_eq_true', Bool.not_eq_false', Bool.not_eq_true, Bool.not_eq_false, beq_eq_false_iff_ne, ne_eq, bne_eq_false_iff_eq, Bool.and_eq_true, Bool.or_eq_true, Bool.not_not, Bool.and_eq_false_iff, Bool.or_eq_false_iff, Int.not_lt, Int.not_le] at hc1')
      have hlt : a + (spanN blankB (s.extract a s.size)) < s.size := by omega
      have hne : (s.data.toList.drop a).dropWhile blankB ≠ [] := by rw [hdw]; exact tail_ne hlt
      have hes2 := ext_size s (a + (spanN blankB (s.extract a s.size)))
      have het := ext_tail s (a + (spanN blankB (s.extract a s.size)))
      have hd0 : (s.extract (a + (spanN blankB (s.extract a s.size))) s.size).data.toList ≠ [] := by rw [het]; exact tail_ne hlt
      refine CD.skip ?_
      refine CD.seq ?_
      refine CD.seq ?_
      refine CD.region ?_
      refine OD.still (wants_plain rfl) rfl (still_mv rfl ot) ?_
      refine OD.still (wants_plain rfl) rfl (still_r1 (mk := fun y => .call { callee := .builtin .len, args := #[y], argTypes := #[25] }) rfl ot (by first | exact len_list rfl Tryd.runUnderlying25 | exact len_row rfl Tryd.runUnderlying25)) ?_
      refine OD.still (wants_plain rfl) rfl (still_bin rfl ot opd_const bin_eql) ?_
      refine OD.wk (Wk.as_ (n := 47) (l' := [(0, _), (5, _), (6, _), (26, _)]) (S' := (Sl)) rfl rfl ⟨lk, lk, lk, lk, trivial⟩) ?_
      refine OD.nil ?_
      refine CD.cond ot (fun hc2 => ?_) (fun hc2 => ?_)
      · have hc2' := hc2
        (try simp only [decide_eq_true_eq, decide_eq_false_iff_not, beq_iff_eq, bne_iff_ne, Bool.not_eq_true', Bool.not_eq_false', Bool.not_eq_true, Bool.not_eq_false, beq_eq_false_iff_ne, ne_eq, bne_eq_false_iff_eq, Bool.and_eq_true, Bool.or_eq_true, Bool.not_not, Bool.and_eq_false_iff, Bool.or_eq_false_iff, Int.not_lt, Int.not_le] at hc2')
        have hce := cut_full (n := n) (a := a) hne (show acc.length = 100 by omega)
        rw [hkk, hc] at hce
        refine CD.seq ?_
        refine CD.region ?_
        refine OD.still (wants_plain rfl) rfl (still_mv rfl ot) ?_
        refine OD.still (wants_plain rfl) rfl (still_as rfl opd_const) ?_
        refine OD.still (wants_plain rfl) rfl (still_as rfl ot) ?_
        refine OD.still (wants_plain rfl) rfl (still_as rfl opd_const) ?_
        refine OD.wk (Wk.as_ (n := 47) (l' := [(2, _), (3, _), (4, _)]) (S' := (Sl)) rfl rfl ⟨lk, lk, lk, trivial⟩) ?_
        refine OD.nil ?_
        refine CD.wk (Wk.giveNil (t := 2) (sz := 3) lk) ?_
        refine CD.ret ?_
        refine ⟨.inr rfl, _, [], List.nil_sublist _, ret_three Tryd.results10 (res_tmp (Nat.le_of_ble_eq_true rfl) lk) (res_tmp (Nat.le_of_ble_eq_true rfl) lk) (res_tmp (Nat.le_of_ble_eq_true rfl) lk), ?_⟩
        first | (rw [hbig]; exact ⟨rfl, rfl⟩) | (rw [hcf, hce]; exact ⟨rfl, rfl⟩)
      · have hc2' := hc2
        (try simp only [decide_eq_true_eq, decide_eq_false_iff_not, beq_iff_eq, bne_iff_ne, Bool.not_eq_true', Bool.not_eq_false', Bool.not_eq_true, Bool.not_eq_false, beq_eq_false_iff_ne, ne_eq, bne_eq_false_iff_eq, Bool.and_eq_true, Bool.or_eq_true, Bool.not_not, Bool.and_eq_false_iff, Bool.or_eq_false_iff, Int.not_lt, Int.not_le] at hc2')
        have hal2 : acc.length ≠ 100 := by omega
        have hov1 : (oneF (s.data.toList.drop (a + (spanN blankB (s.extract a s.size))))).2.2 = 5 → RangeVar G := fun h5 => hov (by rw [← hc, cut_err (n := n) (a := a) hne hal2 (by rw [hdw, h5]; decide), hdw]; exact h5)
        have hov2 : (oneF (s.extract (a + (spanN blankB (s.extract a s.size))) s.size).data.toList).2.2 = 5 → RangeVar G := by rw [het]; exact hov1
        have hov3 := one_vp hm (s.extract (a + (spanN blankB (s.extract a s.size))) s.size) (by omega) (by omega) hov2
        rw [het] at hov3
        refine CD.skip ?_
        refine CD.seq ?_
        refine CD.region ?_
        refine OD.still (wants_plain rfl) rfl (still_mv rfl ot) ?_
        refine OD.still (wants_plain rfl) rfl (still_mv rfl ot) ?_
        refine OD.still (wants_plain rfl) rfl (still_rs (l := (a + (spanN blankB (s.extract a s.size)))) rfl ot ⟨_, ot⟩ trivial (by first | exact sl_str (fun h => by cases h) (fun _ => rfl) Tryd.runUnderlying9 (by omega) (by omega))) ?_
        refine OD.callP (wants_plain rfl) rfl rfl rfl Tryd.call17 (hov3) ⟨ot, trivial⟩ ?_
        refine OD.still (wants_plain rfl) rfl (still_mv rfl ot) ?_
        refine OD.still (wants_plain rfl) rfl (still_extract rfl ot rfl) ?_
        refine OD.still (wants_plain rfl) rfl (still_extract rfl ot rfl) ?_
        refine OD.still (wants_plain rfl) rfl (still_extract rfl ot rfl) ?_
        refine OD.alloc (ds := [_, _, _]) (wants_plain rfl) rfl rfl Tryd.zeroValue30 rfl (fun b7 => ?_)
        refine OD.store (k := 0) (cs' := [_, _, _]) (wants_plain rfl) rfl rfl ot rfl rfl ot rfl rfl Tryd.sizeOf30 rfl rfl rfl ?_
        refine OD.still (wants_plain rfl) rfl (still_as rfl ot) ?_
        refine OD.still (wants_plain rfl) rfl (still_as rfl ot) ?_
        refine OD.wk (Wk.as_ (n := 47) (l' := [(0, _), (5, _), (6, _), (7, _), (8, _), (9, _)]) (S' := (⟨b7, 30, 3, [_, _, _]⟩ :: Sl)) rfl rfl ⟨lk, lk, lk, lk, lk, lk, trivial⟩) ?_
        refine OD.nil ?_
        refine CD.seq ?_
        refine CD.seq ?_
        refine CD.region ?_
        refine OD.still (wants_plain rfl) rfl (still_mv rfl ot) ?_
        refine OD.still (wants_plain rfl) rfl (still_bin rfl ot opd_const bin_neq) ?_
        refine OD.wk (Wk.as_ (n := 47) (l' := [(0, _), (5, _), (6, _), (7, _), (8, _), (9, _), (37, _)]) (S' := (⟨b7, 30, 3, [_, _, _]⟩ :: Sl)) rfl rfl ⟨lk, lk, lk, lk, lk, lk, lk, trivial⟩) ?_
        refine OD.nil ?_
        refine CD.cond ot (fun hc3 => ?_) (fun hc3 => ?_)
        · have hc3' := hc3
          (try simp only [decide_eq_true_eq, decide_eq_false_iff_not, beq_iff_eq, bne_iff_ne, Bool.not_eq_true', Bool.not_eq_false', Bool.not_eq_true, Bool.not_eq_false, beq_eq_false_iff_ne, ne_eq, bne_eq_false_iff_eq, Bool.and_eq_true, Bool.or_eq_true, Bool.not_not, Bool.and_eq_false_iff, Bool.or_eq_false_iff, Int.not_lt, Int.not_le] at hc3')
          have he0 : (oneF (s.data.toList.drop (a + (spanN blankB (s.extract a s.size))))).2.2 ≠ 0 := by simpa using hc3
          have hce := cut_err (n := n) (a := a) hne hal2 (by rw [hdw]; exact he0)
          rw [hkk, hdw, hc] at hce
          refine CD.seq ?_
          refine CD.region ?_
          refine OD.still (wants_plain rfl) rfl (still_mv rfl ot) ?_
          refine OD.still (wants_plain rfl) rfl (still_mv rfl ot) ?_
          refine OD.still (wants_plain rfl) rfl (still_as rfl opd_const) ?_
          refine OD.still (wants_plain rfl) rfl (still_as rfl ot) ?_
          refine OD.still (wants_plain rfl) rfl (still_as rfl ot) ?_
          refine OD.wk (Wk.as_ (n := 47) (l' := [(2, _), (3, _), (4, _)]) (S' := (⟨b7, 30, 3, [_, _, _]⟩ :: Sl)) rfl rfl ⟨lk, lk, lk, trivial⟩) ?_
          refine OD.nil ?_
          refine CD.wk (Wk.giveNil (t := 2) (sz := 3) lk) ?_
          refine CD.ret ?_
          refine ⟨.inr rfl, _, [], List.nil_sublist _, ret_three Tryd.results10 (res_tmp (Nat.le_of_ble_eq_true rfl) lk) (res_tmp (Nat.le_of_ble_eq_true rfl) lk) (res_tmp (Nat.le_of_ble_eq_true rfl) lk), ?_⟩
          first | (rw [hbig]; exact ⟨rfl, rfl⟩) | (rw [hcf, hce]; exact ⟨rfl, rfl⟩)
        · have hc3' := hc3
          (try simp only [decide_eq_true_eq, decide_eq_false_iff_not, beq_iff_eq, bne_iff_ne, Bool.not_eq_true', Bool.not_eq_false', Bool.not_eq_true, Bool.not_eq_false, beq_eq_false_iff_ne, ne_eq, bne_eq_false_iff_eq, Bool.and_eq_true, Bool.or_eq_true, Bool.not_not, Bool.and_eq_false_iff, Bool.or_eq_false_iff, Int.not_lt, Int.not_le] at hc3')
          have he0 : (oneF (s.data.toList.drop (a + (spanN blankB (s.extract a s.size))))).2.2 = 0 := by simpa using hc3
          have hnx := cut_next (n := n) (a := a) hne hal2 (by rw [hdw]; exact he0)
          have hpos := one_pos hne (by rw [hdw]; exact he0)
          rw [hdw] at hpos
          rw [List.length_drop, str_len] at hpos
          rw [hkk, hdw, List.drop_drop] at hnx
          refine CD.skip ?_
          refine CD.seq ?_
          refine CD.region ?_
          refine OD.still (wants_plain rfl) rfl (still_mv rfl ot) ?_
          refine OD.still (wants_plain rfl) rfl (still_r1 (mk := Op.load 30) rfl ot (by first | exact ld_blks (k := 0) (ds := [_, _, _]) rfl rfl Tryd.isAgg30 Tryd.sizeOf30 rfl rfl | exact ld_is (ds := [_, _, _]) Tryd.isAgg30 Tryd.sizeOf30 rfl rfl)) ?_
          refine OD.bldS (pl := [(0, _)]) (zvs := [.int .i64 0, .string ⟨#[]⟩, .int .i64 0]) (ds := [_, _, _]) (wants_plain rfl) rfl rfl Tryd.zeroValue30 Tryd.runUnderlying25 Tryd.sizeOf30 rfl rfl (by kernel_rfl) ⟨rfl, ot, trivial⟩ rfl rfl (fun b42 => ?_)
          refine OD.give (k := 0) (t := 42) (sz := 3) (m := 1) rfl lk rfl rfl rfl (Nat.le_refl _) (by decide) ?_
          refine OD.appendG (ls := (acc)) (new := [(oneF (s.data.toList.drop (a + (spanN blankB (s.extract a s.size))))).1]) (Sq := Sl) cT_len cT_one (wants_plain rfl) rfl rfl Tryd.underlying25 info30_Lx2 rfl (by decide) ot hol (perm_r11 (A := [_])) ot (by simp) (by simp [maxLen]; omega) (by simp; omega) (fun b43 cp43 h143 h243 => ?_)
          refine OD.perm (perm_q11 (S1 := [⟨b43, 30, cp43 * 3, List.flatMap cT ((acc) ++ [(oneF (s.data.toList.drop (a + (spanN blankB (s.extract a s.size))))).1])⟩]) (A := [_])) ?_
          refine OD.still (wants_plain rfl) rfl (still_as rfl ot) ?_
          refine OD.wk (Wk.as_ (n := 47) (l' := [(0, _), (5, _), (6, _), (8, _)]) (S' := (⟨b7, 30, 3, [_, _, _]⟩ :: [⟨b43, 30, cp43 * 3, List.flatMap cT ((acc) ++ [(oneF (s.data.toList.drop (a + (spanN blankB (s.extract a s.size))))).1])⟩])) rfl rfl ⟨lk, lk, lk, lk, trivial⟩) ?_
          refine OD.nil ?_
          refine CD.region ?_
          refine OD.still (wants_plain rfl) rfl (still_mv rfl ot) ?_
          refine OD.still (wants_plain rfl) rfl (still_mv rfl ot) ?_
          refine OD.still (wants_plain rfl) rfl (still_bin (r := .int .i64 ((a + (spanN blankB (s.extract a s.size)) + (oneF (s.data.toList.drop (a + (spanN blankB (s.extract a s.size))))).2.1 : Nat) : Int)) rfl ot ot (bin_add (by show IntKind.i64.wrap ((a : Int) + ((spanN blankB (s.extract a s.size)) : Nat) + ((oneF (s.data.toList.drop (a + (spanN blankB (s.extract a s.size))))).2.1 : Nat)) = (a : Int) + ((spanN blankB (s.extract a s.size)) : Nat) + ((oneF (s.data.toList.drop (a + (spanN blankB (s.extract a s.size))))).2.1 : Nat); exact wrap_i64 (by omega) (by omega)))) ?_
          refine OD.still (wants_plain rfl) rfl (still_as rfl ot) ?_
          refine OD.wk (Wk.as_ (n := 47) (l' := [(0, _), (5, _), (6, _)]) (S' := (⟨b7, 30, 3, [_, _, _]⟩ :: [⟨b43, 30, cp43 * 3, List.flatMap cT ((acc) ++ [(oneF (s.data.toList.drop (a + (spanN blankB (s.extract a s.size))))).1])⟩])) rfl rfl ⟨lk, lk, lk, trivial⟩) ?_
          refine OD.nil ?_
          refine ⟨(n, (a + (spanN blankB (s.extract a s.size)) + (oneF (s.data.toList.drop (a + (spanN blankB (s.extract a s.size))))).2.1), (acc ++ [(oneF (s.data.toList.drop (a + (spanN blankB (s.extract a s.size))))).1]), (some ⟨b43, 0, none⟩), cp43, [⟨b43, 30, cp43 * 3, List.flatMap cT ((acc) ++ [(oneF (s.data.toList.drop (a + (spanN blankB (s.extract a s.size))))).1])⟩]), ⟨47, [(0, .v (.string s)), (5, .v (.slice ((some ⟨b43, 0, none⟩)) (((acc ++ [(oneF (s.data.toList.drop (a + (spanN blankB (s.extract a s.size))))).1]))).length cp43)), (6, .v (.int .i64 (((a + (spanN blankB (s.extract a s.size)) + (oneF (s.data.toList.drop (a + (spanN blankB (s.extract a s.size))))).2.1)) : Nat)))], (([⟨b43, 30, cp43 * 3, List.flatMap cT ((acc) ++ [(oneF (s.data.toList.drop (a + (spanN blankB (s.extract a s.size))))).1])⟩]))⟩, ?_, Wk.asS (n := 47) rfl (by repeat (first | exact List.Sublist.refl _ | apply List.Sublist.cons_cons | apply List.Sublist.cons)) ⟨(by (repeat (first | exact look_hit | (apply look_at; focus (first | rfl | (simp; done) | (congr 2; omega) | (apply row_eq; simp; done))) | (apply look_miss; focus rfl))); done), (by (repeat (first | exact look_hit | (apply look_at; focus (first | rfl | (simp; done) | (congr 2; omega) | (apply row_eq; simp; done))) | (apply look_miss; focus rfl))); done), (by (repeat (first | exact look_hit | (apply look_at; focus (first | rfl | (simp; done) | (congr 2; omega) | (apply row_eq; simp; done))) | (apply look_miss; focus rfl))); done), trivial⟩, (by omega), (by omega), (hnx.symm.trans hc), (by simp; omega), (OwnL.cast (ownL_row h143 h243) (by first | rfl | simp)), rfl⟩
          first | omega | (simp only []; omega)

end Go.Proofs.YtdlcfkkkjklanaaDoor.Lx
