/-
  What the proof of OpsWhole leans on, part 2 of 4: walks of the program's functions at the level of values, and plain facts of what they compute.
-/
import Derived.Test.YtoemmoeedhllfaaDoorPOpsWhole1
namespace Go.Proofs.YtoemmoeedhllfaaDoor.Nm
open Go.RowKit V
set_option linter.unusedVariables false
set_option linter.unusedSimpArgs false

def wordsB : List (List UInt8) := [[67, 82, 69, 65, 84, 69], [84, 65, 66, 76, 69], [68, 82, 79, 80], [73, 78, 83, 69, 82, 84], [73, 78, 84, 79], [86, 65, 76, 85, 69, 83], [83, 69, 76, 69, 67, 84], [67, 79, 85, 78, 84], [70, 82, 79, 77], [87, 72, 69, 82, 69], [79, 82, 68, 69, 82], [66, 89], [68, 69, 83, 67], [76, 73, 77, 73, 84], [85, 80, 68, 65, 84, 69], [83, 69, 84], [68, 69, 76, 69, 84, 69], [66, 69, 71, 73, 78], [67, 79, 77, 77, 73, 84], [82, 79, 76, 76, 66, 65, 67, 75], [65, 78, 68], [79, 82], [78, 79, 84], [73, 83], [78, 85, 76, 76], [84, 82, 85, 69], [70, 65, 76, 83, 69], [73, 78, 84], [84, 69, 88, 84], [66, 79, 79, 76]]
def marksB : List (List UInt8) := [[60, 61], [62, 61], [60, 62], [40], [41], [44], [42], [43], [45], [61], [60], [62]]
def wordsL : List ByteArray := wordsB.map fun b => ⟨b.toArray⟩
def marksL : List ByteArray := marksB.map fun b => ⟨b.toArray⟩
def wordsC : List Value := wordsL.map .string
def marksC : List Value := marksL.map .string

def letterB (c : UInt8) : Bool := decide ((97 ≤ c.toNat ∧ c.toNat ≤ 122) ∨ (65 ≤ c.toNat ∧ c.toNat ≤ 90) ∨ c.toNat = 95)
def digitB (c : UInt8) : Bool := decide (48 ≤ c.toNat ∧ c.toNat ≤ 57)
def wordB (c : UInt8) : Bool := letterB c || digitB c
def spanN (p : UInt8 → Bool) (s : ByteArray) : Nat := (s.data.toList.takeWhile p).length
theorem tw_len (p : UInt8 → Bool) : ∀ (l : List UInt8) (k : Nat), k ≤ l.length → (∀ x ∈ l.take k, p x = true) → (∀ h : k < l.length, p l[k] = false) → (l.takeWhile p).length = k
  | [], k, h, _, _ => by simp at h; subst h; rfl
  | a :: r, 0, _, _, h => by
    have : p a = false := h (by simp)
    rw [List.takeWhile_cons]; simp [this]
  | a :: r, k + 1, h1, h2, h3 => by
    have ha : p a = true := h2 a (by simp)
    rw [List.takeWhile_cons, if_pos ha, List.length_cons, tw_len p r k (by simpa using h1) (fun x hx => h2 x (by rw [List.take_succ_cons]; exact List.mem_cons_of_mem _ hx)) (fun h => by have := h3 (by simpa using h); simpa using this)]
theorem span_eq {p : UInt8 → Bool} {s : ByteArray} {k : Nat} (hk : k ≤ s.size) (h0 : ∀ x ∈ s.data.toList.take k, p x = true) (h1 : k < s.size → p (byteAt s k) = false) : spanN p s = k :=
  tw_len p _ k (by rw [str_len]; exact hk) h0 fun h => by rw [byteAt_get h]; exact h1 (by rw [str_len] at h; exact h)

structure Tk where
  k : Int
  s : ByteArray
  n : Int
def cT (t : Tk) : List D := [.v (.int .i64 t.k), .v (.string t.s), .v (.int .i64 t.n)]
def okWord (s : ByteArray) : Bool := !decide (s.size = 0) && letterB (byteAt s 0) && ((spanN wordB s : Int) == (s.size : Int))
/-- What lex.Check answers. -/
def checkT (t : Tk) : Int :=
  if t.k = 1 then (if (decide (t.n = 0) && okWord t.s) = true then 0 else 6)
  else if t.k = 2 then (if t.n < 0 then 3 else if t.s.size = 0 then 0 else 6)
  else if t.k = 3 then (if t.n = 0 then 0 else 6)
  else if t.k = 4 then (if (decide (t.n = 0) && marksL.any (eqS t.s)) = true then 0 else 6)
  else 2
def nameF (s : ByteArray) : Int := if s.size > 8 then 1 else if (!(okWord s) || wordsL.any (eqS s)) = true then 6 else 0
theorem check_word (s : ByteArray) : checkT ⟨1, s, 0⟩ = if okWord s = true then 0 else 6 := by
  unfold checkT
  rw [if_pos rfl]
  simp

variable {G : List (Nat × List Value)}

theorem letter_vp (c : UInt8) : VP Tryd.prog G 48 [.v (.int .u8 ((c).toNat : Int))] (.v (.bool (letterB c))) := by
  refine VC.body Tryd.func48 rfl Tryd.ntmps48 (Nat.le_of_ble_eq_true rfl) fun X0 w0 S00 => ?_
  refine CD.seq ?_
  refine CD.region ?_
  refine OD.still (wants_plain rfl) rfl (still_as rfl opd_const) ?_
  refine OD.wk (Wk.as_ (n := 21) (l' := [(0, _)]) (S' := []) rfl rfl ⟨lk, trivial⟩) ?_
  refine OD.nil ?_
  refine CD.seq ?_
  refine CD.region ?_
  refine OD.still (wants_plain rfl) rfl (still_mv rfl ot) ?_
  refine OD.still (wants_plain rfl) rfl (still_bin rfl ot opd_const bin_geq) ?_
  refine OD.still (wants_plain rfl) rfl (still_mv rfl ot) ?_
  refine OD.split (t := 5) lk (fun hg5 => ?_) (fun hg5 => ?_)
  · have hg5' := hg5; (try simp only [decide_eq_true_eq, decide_eq_false_iff_not, beq_iff_eq, bne_iff_ne, Bool.not_eq_true', Bool.not_eq_false', Bool.not_eq_true, Bool.not_eq_false, beq_eq_false_iff_ne, ne_eq, bne_eq_false_iff_eq, Bool.and_eq_true, Bool.or_eq_true, Bool.not_not] at hg5')
    refine OD.still (wants_T rfl rfl rfl lk (by first | rfl | assumption)) rfl (still_mv rfl ot) ?_
    refine OD.still (wants_T rfl rfl rfl lk (by first | rfl | assumption)) rfl (still_bin rfl ot opd_const bin_leq) ?_
    refine OD.still (wants_plain rfl) rfl (still_pickT rfl ot (by first | rfl | assumption) ot) ?_
    refine OD.still (wants_plain rfl) rfl (still_mv rfl ot) ?_
    refine OD.split (t := 9) lk (fun hg9 => ?_) (fun hg9 => ?_)
    · have hg9' := hg9; (try simp only [decide_eq_true_eq, decide_eq_false_iff_not, beq_iff_eq, bne_iff_ne, Bool.not_eq_true', Bool.not_eq_false', Bool.not_eq_true, Bool.not_eq_false, beq_eq_false_iff_ne, ne_eq, bne_eq_false_iff_eq, Bool.and_eq_true, Bool.or_eq_true, Bool.not_not] at hg9')
      refine OD.skip (wants_F rfl rfl rfl lk (by first | rfl | assumption)) rfl ?_
      refine OD.skip (wants_F rfl rfl rfl lk (by first | rfl | assumption)) rfl ?_
      refine OD.skip (wants_F rfl rfl rfl lk (by first | rfl | assumption)) rfl ?_
      refine OD.skip (wants_J (b := false) rfl rfl rfl lk) rfl ?_
      refine OD.skip (wants_J (b := false) rfl rfl rfl lk) rfl ?_
      refine OD.skip (wants_F rfl rfl rfl lk (by first | rfl | assumption)) rfl ?_
      refine OD.still (wants_plain rfl) rfl (still_pickT rfl ot (by first | rfl | assumption) opd_const) ?_
      refine OD.still (wants_plain rfl) rfl (still_mv rfl ot) ?_
      refine OD.skip (wants_F rfl rfl rfl lk (by first | rfl | assumption)) rfl ?_
      refine OD.skip (wants_F rfl rfl rfl lk (by first | rfl | assumption)) rfl ?_
      refine OD.still (wants_plain rfl) rfl (still_pickT rfl ot (by first | rfl | assumption) opd_const) ?_
      refine OD.still (wants_plain rfl) rfl (still_as rfl ot) ?_
      refine OD.wk (Wk.as_ (n := 21) (l' := [(2, _)]) (S' := []) rfl rfl ⟨lk, trivial⟩) ?_
      refine OD.nil ?_
      refine CD.ret ?_
      refine ⟨.inr rfl, _, [], List.nil_sublist _, ret_one Tryd.results48 (res_tmp (Nat.le_of_ble_eq_true rfl) lk), ?_⟩
      refine ⟨vb ?_, rfl⟩
      rw [Bool.eq_iff_iff]
      simp [letterB]
      first | done | omega
    · have hg9' := hg9; (try simp only [decide_eq_true_eq, decide_eq_false_iff_not, beq_iff_eq, bne_iff_ne, Bool.not_eq_true', Bool.not_eq_false', Bool.not_eq_true, Bool.not_eq_false, beq_eq_false_iff_ne, ne_eq, bne_eq_false_iff_eq, Bool.and_eq_true, Bool.or_eq_true, Bool.not_not] at hg9')
      refine OD.still (wants_T rfl rfl rfl lk (by first | rfl | assumption)) rfl (still_mv rfl ot) ?_
      refine OD.still (wants_T rfl rfl rfl lk (by first | rfl | assumption)) rfl (still_bin rfl ot opd_const bin_geq) ?_
      refine OD.still (wants_T rfl rfl rfl lk (by first | rfl | assumption)) rfl (still_mv rfl ot) ?_
      refine OD.split (t := 12) lk (fun hg12 => ?_) (fun hg12 => ?_)
      · have hg12' := hg12; (try simp only [decide_eq_true_eq, decide_eq_false_iff_not, beq_iff_eq, bne_iff_ne, Bool.not_eq_true', Bool.not_eq_false', Bool.not_eq_true, Bool.not_eq_false, beq_eq_false_iff_ne, ne_eq, bne_eq_false_iff_eq, Bool.and_eq_true, Bool.or_eq_true, Bool.not_not] at hg12')
        refine OD.still (wants_T rfl rfl rfl lk (by first | rfl | assumption)) rfl (still_mv rfl ot) ?_
        refine OD.still (wants_T rfl rfl rfl lk (by first | rfl | assumption)) rfl (still_bin rfl ot opd_const bin_leq) ?_
        refine OD.still (wants_T rfl rfl rfl lk (by first | rfl | assumption)) rfl (still_pickT rfl ot (by first | rfl | assumption) ot) ?_
        refine OD.still (wants_plain rfl) rfl (still_pickF rfl ot (by first | rfl | assumption) ot) ?_
        refine OD.still (wants_plain rfl) rfl (still_mv rfl ot) ?_
        refine OD.split (t := 17) lk (fun hg17 => ?_) (fun hg17 => ?_)
        · have hg17' := hg17; (try simp only [decide_eq_true_eq, decide_eq_false_iff_not, beq_iff_eq, bne_iff_ne, Bool.not_eq_true', Bool.not_eq_false', Bool.not_eq_true, Bool.not_eq_false, beq_eq_false_iff_ne, ne_eq, bne_eq_false_iff_eq, Bool.and_eq_true, Bool.or_eq_true, Bool.not_not] at hg17')
          refine OD.skip (wants_F rfl rfl rfl lk (by first | rfl | assumption)) rfl ?_
          refine OD.skip (wants_F rfl rfl rfl lk (by first | rfl | assumption)) rfl ?_
          refine OD.still (wants_plain rfl) rfl (still_pickT rfl ot (by first | rfl | assumption) opd_const) ?_
          refine OD.still (wants_plain rfl) rfl (still_as rfl ot) ?_
          refine OD.wk (Wk.as_ (n := 21) (l' := [(2, _)]) (S' := []) rfl rfl ⟨lk, trivial⟩) ?_
          refine OD.nil ?_
          refine CD.ret ?_
          refine ⟨.inr rfl, _, [], List.nil_sublist _, ret_one Tryd.results48 (res_tmp (Nat.le_of_ble_eq_true rfl) lk), ?_⟩
          refine ⟨vb ?_, rfl⟩
          rw [Bool.eq_iff_iff]
          simp [letterB]
          first | done | omega
        · have hg17' := hg17; (try simp only [decide_eq_true_eq, decide_eq_false_iff_not, beq_iff_eq, bne_iff_ne, Bool.not_eq_true', Bool.not_eq_false', Bool.not_eq_true, Bool.not_eq_false, beq_eq_false_iff_ne, ne_eq, bne_eq_false_iff_eq, Bool.and_eq_true, Bool.or_eq_true, Bool.not_not] at hg17')
          refine OD.still (wants_T rfl rfl rfl lk (by first | rfl | assumption)) rfl (still_mv rfl ot) ?_
          refine OD.still (wants_T rfl rfl rfl lk (by first | rfl | assumption)) rfl (still_bin rfl ot opd_const bin_eql) ?_
          refine OD.still (wants_plain rfl) rfl (still_pickF rfl ot (by first | rfl | assumption) ot) ?_
          refine OD.still (wants_plain rfl) rfl (still_as rfl ot) ?_
          refine OD.wk (Wk.as_ (n := 21) (l' := [(2, _)]) (S' := []) rfl rfl ⟨lk, trivial⟩) ?_
          refine OD.nil ?_
          refine CD.ret ?_
          refine ⟨.inr rfl, _, [], List.nil_sublist _, ret_one Tryd.results48 (res_tmp (Nat.le_of_ble_eq_true rfl) lk), ?_⟩
          refine ⟨vb ?_, rfl⟩
          rw [Bool.eq_iff_iff]
          simp [letterB]
          first | done | omega
      · have hg12' := hg12; (try simp only [decide_eq_true_eq, decide_eq_false_iff_not, beq_iff_eq, bne_iff_ne, Bool.not_eq_true', Bool.not_eq_false', Bool.not_eq_true, Bool.not_eq_false, beq_eq_false_iff_ne, ne_eq, bne_eq_false_iff_eq, Bool.and_eq_true, Bool.or_eq_true, Bool.not_not] at hg12')
        refine OD.skip (wants_F rfl rfl rfl lk (by first | rfl | assumption)) rfl ?_
        refine OD.skip (wants_F rfl rfl rfl lk (by first | rfl | assumption)) rfl ?_
        refine OD.still (wants_T rfl rfl rfl lk (by first | rfl | assumption)) rfl (still_pickF rfl ot (by first | rfl | assumption) opd_const) ?_
        refine OD.still (wants_plain rfl) rfl (still_pickF rfl ot (by first | rfl | assumption) ot) ?_
        refine OD.still (wants_plain rfl) rfl (still_mv rfl ot) ?_
        refine OD.still (wants_T rfl rfl rfl lk (by first | rfl | assumption)) rfl (still_mv rfl ot) ?_
        refine OD.still (wants_T rfl rfl rfl lk (by first | rfl | assumption)) rfl (still_bin rfl ot opd_const bin_eql) ?_
        refine OD.still (wants_plain rfl) rfl (still_pickF rfl ot (by first | rfl | assumption) ot) ?_
        refine OD.still (wants_plain rfl) rfl (still_as rfl ot) ?_
        refine OD.wk (Wk.as_ (n := 21) (l' := [(2, _)]) (S' := []) rfl rfl ⟨lk, trivial⟩) ?_
        refine OD.nil ?_
        refine CD.ret ?_
        refine ⟨.inr rfl, _, [], List.nil_sublist _, ret_one Tryd.results48 (res_tmp (Nat.le_of_ble_eq_true rfl) lk), ?_⟩
        refine ⟨vb ?_, rfl⟩
        rw [Bool.eq_iff_iff]
        simp [letterB]
        first | done | omega
  · have hg5' := hg5; (try simp only [decide_eq_true_eq, decide_eq_false_iff_not, beq_iff_eq, bne_iff_ne, Bool.not_eq_true', Bool.not_eq_false', Bool.not_eq_true, Bool.not_eq_false, beq_eq_false_iff_ne, ne_eq, bne_eq_false_iff_eq, Bool.and_eq_true, Bool.or_eq_true, Bool.not_not] at hg5')
    refine OD.skip (wants_F rfl rfl rfl lk (by first | rfl | assumption)) rfl ?_
    refine OD.skip (wants_F rfl rfl rfl lk (by first | rfl | assumption)) rfl ?_
    refine OD.still (wants_plain rfl) rfl (still_pickF rfl ot (by first | rfl | assumption) opd_const) ?_
    refine OD.still (wants_plain rfl) rfl (still_mv rfl ot) ?_
    refine OD.still (wants_T rfl rfl rfl lk (by first | rfl | assumption)) rfl (still_mv rfl ot) ?_
    refine OD.still (wants_T rfl rfl rfl lk (by first | rfl | assumption)) rfl (still_bin rfl ot opd_const bin_geq) ?_
    refine OD.still (wants_T rfl rfl rfl lk (by first | rfl | assumption)) rfl (still_mv rfl ot) ?_
    refine OD.split (t := 12) lk (fun hg12 => ?_) (fun hg12 => ?_)
    · have hg12' := hg12; (try simp only [decide_eq_true_eq, decide_eq_false_iff_not, beq_iff_eq, bne_iff_ne, Bool.not_eq_true', Bool.not_eq_false', Bool.not_eq_true, Bool.not_eq_false, beq_eq_false_iff_ne, ne_eq, bne_eq_false_iff_eq, Bool.and_eq_true, Bool.or_eq_true, Bool.not_not] at hg12')
      refine OD.still (wants_T rfl rfl rfl lk (by first | rfl | assumption)) rfl (still_mv rfl ot) ?_
      refine OD.still (wants_T rfl rfl rfl lk (by first | rfl | assumption)) rfl (still_bin rfl ot opd_const bin_leq) ?_
      refine OD.still (wants_T rfl rfl rfl lk (by first | rfl | assumption)) rfl (still_pickT rfl ot (by first | rfl | assumption) ot) ?_
      refine OD.still (wants_plain rfl) rfl (still_pickF rfl ot (by first | rfl | assumption) ot) ?_
      refine OD.still (wants_plain rfl) rfl (still_mv rfl ot) ?_
      refine OD.split (t := 17) lk (fun hg17 => ?_) (fun hg17 => ?_)
      · have hg17' := hg17; (try simp only [decide_eq_true_eq, decide_eq_false_iff_not, beq_iff_eq, bne_iff_ne, Bool.not_eq_true', Bool.not_eq_false', Bool.not_eq_true, Bool.not_eq_false, beq_eq_false_iff_ne, ne_eq, bne_eq_false_iff_eq, Bool.and_eq_true, Bool.or_eq_true, Bool.not_not] at hg17')
        refine OD.skip (wants_F rfl rfl rfl lk (by first | rfl | assumption)) rfl ?_
        refine OD.skip (wants_F rfl rfl rfl lk (by first | rfl | assumption)) rfl ?_
        refine OD.still (wants_plain rfl) rfl (still_pickT rfl ot (by first | rfl | assumption) opd_const) ?_
        refine OD.still (wants_plain rfl) rfl (still_as rfl ot) ?_
        refine OD.wk (Wk.as_ (n := 21) (l' := [(2, _)]) (S' := []) rfl rfl ⟨lk, trivial⟩) ?_
        refine OD.nil ?_
        refine CD.ret ?_
        refine ⟨.inr rfl, _, [], List.nil_sublist _, ret_one Tryd.results48 (res_tmp (Nat.le_of_ble_eq_true rfl) lk), ?_⟩
        refine ⟨vb ?_, rfl⟩
        rw [Bool.eq_iff_iff]
        simp [letterB]
        first | done | omega
      · have hg17' := hg17; (try simp only [decide_eq_true_eq, decide_eq_false_iff_not, beq_iff_eq, bne_iff_ne, Bool.not_eq_true', Bool.not_eq_false', Bool.not_eq_true, Bool.not_eq_false, beq_eq_false_iff_ne, ne_eq, bne_eq_false_iff_eq, Bool.and_eq_true, Bool.or_eq_true, Bool.not_not] at hg17')
        refine OD.still (wants_T rfl rfl rfl lk (by first | rfl | assumption)) rfl (still_mv rfl ot) ?_
        refine OD.still (wants_T rfl rfl rfl lk (by first | rfl | assumption)) rfl (still_bin rfl ot opd_const bin_eql) ?_
        refine OD.still (wants_plain rfl) rfl (still_pickF rfl ot (by first | rfl | assumption) ot) ?_
        refine OD.still (wants_plain rfl) rfl (still_as rfl ot) ?_
        refine OD.wk (Wk.as_ (n := 21) (l' := [(2, _)]) (S' := []) rfl rfl ⟨lk, trivial⟩) ?_
        refine OD.nil ?_
        refine CD.ret ?_
        refine ⟨.inr rfl, _, [], List.nil_sublist _, ret_one Tryd.results48 (res_tmp (Nat.le_of_ble_eq_true rfl) lk), ?_⟩
        refine ⟨vb ?_, rfl⟩
        rw [Bool.eq_iff_iff]
        simp [letterB]
        first | done | omega
    · have hg12' := hg12; (try simp only [decide_eq_true_eq, decide_eq_false_iff_not, beq_iff_eq, bne_iff_ne, Bool.not_eq_true', Bool.not_eq_false', Bool.not_eq_true, Bool.not_eq_false, beq_eq_false_iff_ne, ne_eq, bne_eq_false_iff_eq, Bool.and_eq_true, Bool.or_eq_true, Bool.not_not] at hg12')
      refine OD.skip (wants_F rfl rfl rfl lk (by first | rfl | assumption)) rfl ?_
      refine OD.skip (wants_F rfl rfl rfl lk (by first | rfl | assumption)) rfl ?_
      refine OD.still (wants_T rfl rfl rfl lk (by first | rfl | assumption)) rfl (still_pickF rfl ot (by first | rfl | assumption) opd_const) ?_
      refine OD.still (wants_plain rfl) rfl (still_pickF rfl ot (by first | rfl | assumption) ot) ?_
      refine OD.still (wants_plain rfl) rfl (still_mv rfl ot) ?_
      refine OD.still (wants_T rfl rfl rfl lk (by first | rfl | assumption)) rfl (still_mv rfl ot) ?_
      refine OD.still (wants_T rfl rfl rfl lk (by first | rfl | assumption)) rfl (still_bin rfl ot opd_const bin_eql) ?_
      refine OD.still (wants_plain rfl) rfl (still_pickF rfl ot (by first | rfl | assumption) ot) ?_
      refine OD.still (wants_plain rfl) rfl (still_as rfl ot) ?_
      refine OD.wk (Wk.as_ (n := 21) (l' := [(2, _)]) (S' := []) rfl rfl ⟨lk, trivial⟩) ?_
      refine OD.nil ?_
      refine CD.ret ?_
      refine ⟨.inr rfl, _, [], List.nil_sublist _, ret_one Tryd.results48 (res_tmp (Nat.le_of_ble_eq_true rfl) lk), ?_⟩
      refine ⟨vb ?_, rfl⟩
      rw [Bool.eq_iff_iff]
      simp [letterB]
      first | done | omega

theorem digit_vp (c : UInt8) : VP Tryd.prog G 51 [.v (.int .u8 ((c).toNat : Int))] (.v (.bool (digitB c))) := by
  refine VC.body Tryd.func51 rfl Tryd.ntmps51 (Nat.le_of_ble_eq_true rfl) fun X0 w0 S00 => ?_
  refine CD.seq ?_
  refine CD.region ?_
  refine OD.still (wants_plain rfl) rfl (still_as rfl opd_const) ?_
  refine OD.wk (Wk.as_ (n := 9) (l' := [(0, _)]) (S' := []) rfl rfl ⟨lk, trivial⟩) ?_
  refine OD.nil ?_
  refine CD.seq ?_
  refine CD.region ?_
  refine OD.still (wants_plain rfl) rfl (still_mv rfl ot) ?_
  refine OD.still (wants_plain rfl) rfl (still_bin rfl ot opd_const bin_geq) ?_
  refine OD.still (wants_plain rfl) rfl (still_mv rfl ot) ?_
  refine OD.split (t := 5) lk (fun hg5 => ?_) (fun hg5 => ?_)
  · have hg5' := hg5; (try simp only [decide_eq_true_eq, decide_eq_false_iff_not, beq_iff_eq, bne_iff_ne, Bool.not_eq_true', Bool.not_eq_false', Bool.not_eq_true, Bool.not_eq_false, beq_eq_false_iff_ne, ne_eq, bne_eq_false_iff_eq, Bool.and_eq_true, Bool.or_eq_true, Bool.not_not] at hg5')
    refine OD.still (wants_T rfl rfl rfl lk (by first | rfl | assumption)) rfl (still_mv rfl ot) ?_
    refine OD.still (wants_T rfl rfl rfl lk (by first | rfl | assumption)) rfl (still_bin rfl ot opd_const bin_leq) ?_
    refine OD.still (wants_plain rfl) rfl (still_pickT rfl ot (by first | rfl | assumption) ot) ?_
    refine OD.still (wants_plain rfl) rfl (still_as rfl ot) ?_
    refine OD.wk (Wk.as_ (n := 9) (l' := [(2, _)]) (S' := []) rfl rfl ⟨lk, trivial⟩) ?_
    refine OD.nil ?_
    refine CD.ret ?_
    refine ⟨.inr rfl, _, [], List.nil_sublist _, ret_one Tryd.results51 (res_tmp (Nat.le_of_ble_eq_true rfl) lk), ?_⟩
    refine ⟨vb ?_, rfl⟩
    rw [Bool.eq_iff_iff]
    simp [digitB]
    first | done | omega
  · have hg5' := hg5; (try simp only [decide_eq_true_eq, decide_eq_false_iff_not, beq_iff_eq, bne_iff_ne, Bool.not_eq_true', Bool.not_eq_false', Bool.not_eq_true, Bool.not_eq_false, beq_eq_false_iff_ne, ne_eq, bne_eq_false_iff_eq, Bool.and_eq_true, Bool.or_eq_true, Bool.not_not] at hg5')
    refine OD.skip (wants_F rfl rfl rfl lk (by first | rfl | assumption)) rfl ?_
    refine OD.skip (wants_F rfl rfl rfl lk (by first | rfl | assumption)) rfl ?_
    refine OD.still (wants_plain rfl) rfl (still_pickF rfl ot (by first | rfl | assumption) opd_const) ?_
    refine OD.still (wants_plain rfl) rfl (still_as rfl ot) ?_
    refine OD.wk (Wk.as_ (n := 9) (l' := [(2, _)]) (S' := []) rfl rfl ⟨lk, trivial⟩) ?_
    refine OD.nil ?_
    refine CD.ret ?_
    refine ⟨.inr rfl, _, [], List.nil_sublist _, ret_one Tryd.results51 (res_tmp (Nat.le_of_ble_eq_true rfl) lk), ?_⟩
    refine ⟨vb ?_, rfl⟩
    rw [Bool.eq_iff_iff]
    simp [digitB]
    first | done | omega

theorem wordB_vp (c : UInt8) : VP Tryd.prog G 50 [.v (.int .u8 ((c).toNat : Int))] (.v (.bool (wordB c))) := by
  refine VC.body Tryd.func50 rfl Tryd.ntmps50 (Nat.le_of_ble_eq_true rfl) fun X0 w0 S00 => ?_
  refine CD.seq ?_
  refine CD.region ?_
  refine OD.still (wants_plain rfl) rfl (still_as rfl opd_const) ?_
  refine OD.wk (Wk.as_ (n := 9) (l' := [(0, _)]) (S' := []) rfl rfl ⟨lk, trivial⟩) ?_
  refine OD.nil ?_
  refine CD.seq ?_
  refine CD.region ?_
  refine OD.still (wants_plain rfl) rfl (still_mv rfl ot) ?_
  refine OD.callP (wants_plain rfl) rfl rfl rfl Tryd.call48 (letter_vp c) ⟨ot, trivial⟩ ?_
  refine OD.still (wants_plain rfl) rfl (still_mv rfl ot) ?_
  refine OD.split (t := 5) lk (fun hg5 => ?_) (fun hg5 => ?_)
  · have hg5' := hg5; (try simp only [decide_eq_true_eq, decide_eq_false_iff_not, beq_iff_eq, bne_iff_ne, Bool.not_eq_true', Bool.not_eq_false', Bool.not_eq_true, Bool.not_eq_false, beq_eq_false_iff_ne, ne_eq, bne_eq_false_iff_eq, Bool.and_eq_true, Bool.or_eq_true, Bool.not_not] at hg5')
    refine OD.skip (wants_F rfl rfl rfl lk (by first | rfl | assumption)) rfl ?_
    refine OD.skip (wants_F rfl rfl rfl lk (by first | rfl | assumption)) rfl ?_
    refine OD.still (wants_plain rfl) rfl (still_pickT rfl ot (by first | rfl | assumption) opd_const) ?_
    refine OD.still (wants_plain rfl) rfl (still_as rfl ot) ?_
    refine OD.wk (Wk.as_ (n := 9) (l' := [(2, _)]) (S' := []) rfl rfl ⟨lk, trivial⟩) ?_
    refine OD.nil ?_
    refine CD.ret ?_
    refine ⟨.inr rfl, _, [], List.nil_sublist _, ret_one Tryd.results50 (res_tmp (Nat.le_of_ble_eq_true rfl) lk), ?_⟩
    exact ⟨vb (by simp [wordB, *]), rfl⟩
  · have hg5' := hg5; (try simp only [decide_eq_true_eq, decide_eq_false_iff_not, beq_iff_eq, bne_iff_ne, Bool.not_eq_true', Bool.not_eq_false', Bool.not_eq_true, Bool.not_eq_false, beq_eq_false_iff_ne, ne_eq, bne_eq_false_iff_eq, Bool.and_eq_true, Bool.or_eq_true, Bool.not_not] at hg5')
    refine OD.still (wants_T rfl rfl rfl lk (by first | rfl | assumption)) rfl (still_mv rfl ot) ?_
    refine OD.callP (wants_T rfl rfl rfl lk (by first | rfl | assumption)) rfl rfl rfl Tryd.call51 (digit_vp c) ⟨ot, trivial⟩ ?_
    refine OD.still (wants_plain rfl) rfl (still_pickF rfl ot (by first | rfl | assumption) ot) ?_
    refine OD.still (wants_plain rfl) rfl (still_as rfl ot) ?_
    refine OD.wk (Wk.as_ (n := 9) (l' := [(2, _)]) (S' := []) rfl rfl ⟨lk, trivial⟩) ?_
    refine OD.nil ?_
    refine CD.ret ?_
    refine ⟨.inr rfl, _, [], List.nil_sublist _, ret_one Tryd.results50 (res_tmp (Nat.le_of_ble_eq_true rfl) lk), ?_⟩
    exact ⟨vb (by simp [wordB, *]), rfl⟩

theorem span_vp (s : ByteArray) (g : Nat) (p : UInt8 → Bool) (hcall : ∀ args w, (callFunc g args).run Tryd.prog w = .ok (.enter g args) w) (hp : ∀ c, VP Tryd.prog G g [.v (.int .u8 ((c).toNat : Int))] (.v (.bool (p c)))) (hs : s.size ≤ maxLen) : VP Tryd.prog G 49 [.v (.string s), .clo (.func g) []] (.v (.int .i64 (spanN p s))) := by
  refine VC.body Tryd.func49 rfl Tryd.ntmps49 (Nat.le_of_ble_eq_true rfl) fun X0 w0 S00 => ?_
  simp only [maxLen] at hs
  refine CD.seq ?_
  refine CD.region ?_
  refine OD.still (wants_plain rfl) rfl (still_as rfl opd_const) ?_
  refine OD.wk (Wk.as_ (n := 20) (l' := [(0, _), (1, _)]) (S' := []) rfl rfl ⟨lk, lk, trivial⟩) ?_
  refine OD.nil ?_
  refine CD.seq ?_
  refine CD.region ?_
  refine OD.still (wants_plain rfl) rfl (still_as rfl opd_const) ?_
  refine OD.wk (Wk.as_ (n := 20) (l' := [(0, _), (1, _), (5, _)]) (S' := []) rfl rfl ⟨lk, lk, lk, trivial⟩) ?_
  refine OD.nil ?_
  refine CD.seq ?_
  refine CD.block ?_
  refine CD.wk (Wk.asS (n := 20) (l' := [(0, .v (.string s)), (1, .clo (.func g) []), (5, .v (.int .i64 ((0) : Nat)))]) (S' := []) rfl (by repeat (first | exact List.Sublist.refl _ | apply List.Sublist.cons)) ⟨(by (repeat (first | exact look_hit | (apply look_at; focus (first | rfl | (simp; done) | (congr 2; omega))) | (apply look_miss; focus rfl))); done), (by (repeat (first | exact look_hit | (apply look_at; focus (first | rfl | (simp; done) | (congr 2; omega))) | (apply look_miss; focus rfl))); done), (by (repeat (first | exact look_hit | (apply look_at; focus (first | rfl | (simp; done) | (congr 2; omega))) | (apply look_miss; focus rfl))); done), trivial⟩) (CD.loop (fun (k : Nat) y__ => (k ≤ s.size) ∧ (∀ x ∈ s.data.toList.take k, p x = true) ∧ y__ = (⟨20, [(0, .v (.string s)), (1, .clo (.func g) []), (5, .v (.int .i64 (k : Nat)))], []⟩ : St)) (fun (k : Nat) => s.size - k) 0 ⟨(Nat.zero_le _), (by simp), rfl⟩ ?_)
  rintro k _ ⟨hk, h0, rfl⟩
  refine CD.seq ?_
  refine CD.seq ?_
  refine CD.region ?_
  refine OD.still (wants_plain rfl) rfl (still_mv rfl ot) ?_
  refine OD.still (wants_plain rfl) rfl (still_mv rfl ot) ?_
  refine OD.still (wants_plain rfl) rfl (still_slen rfl rfl ot Tryd.runUnderlying9) ?_
  refine OD.still (wants_plain rfl) rfl (still_bin rfl ot ot bin_lss) ?_
  refine OD.still (wants_plain rfl) rfl (still_mv rfl ot) ?_
  refine OD.split (t := 10) lk (fun hg10 => ?_) (fun hg10 => ?_)
  · have hg10' := hg10; (try simp only [decide_eq_true_eq, decide_eq_false_iff_not, beq_iff_eq, bne_iff_ne, Bool.not_eq_true', Bool.not_eq_false', Bool.not_eq_true, Bool.not_eq_false, beq_eq_false_iff_ne, ne_eq, bne_eq_false_iff_eq, Bool.and_eq_true, Bool.or_eq_true, Bool.not_not] at hg10')
    have hks : k < s.size := by omega
    have hkc : s[k]? = some (byteAt s k) := str_at hks
    refine OD.still (wants_T rfl rfl rfl lk (by first | rfl | assumption)) rfl (still_mv rfl ot) ?_
    refine OD.still (wants_T rfl rfl rfl lk (by first | rfl | assumption)) rfl (still_mv rfl ot) ?_
    refine OD.still (wants_T rfl rfl rfl lk (by first | rfl | assumption)) rfl (still_mv rfl ot) ?_
    refine OD.still (wants_T rfl rfl rfl lk (by first | rfl | assumption)) rfl (still_sidx rfl ot ot Tryd.runUnderlying9 rfl (by first | assumption | rfl)) ?_
    refine OD.callv (f := g) (args := [_]) (all := [_]) (wants_T rfl rfl rfl lk (by first | rfl | assumption)) rfl rfl ot hcall (hp (byteAt s k)) rfl ⟨ot, trivial⟩ (perm_none _) ?_; rintro _ S2 ⟨rfl, rfl⟩
    refine OD.still (wants_plain rfl) rfl (still_pickT rfl ot (by first | rfl | assumption) ot) ?_
    refine OD.wk (Wk.as_ (n := 20) (l' := [(0, _), (1, _), (5, _), (16, _)]) (S' := []) rfl rfl ⟨lk, lk, lk, lk, trivial⟩) ?_
    refine OD.nil ?_
    refine CD.cond ot (fun hc0 => ?_) (fun hc0 => ?_)
    · have hc0' := hc0
      (try simp only [decide_eq_true_eq, decide_eq_false_iff_not, beq_iff_eq, bne_iff_ne, Bool.not_eq_true', Bool.not_eq_false', Bool.not_eq_true, Bool.not_eq_false, beq_eq_false_iff_ne, ne_eq, bne_eq_false_iff_eq, Bool.and_eq_true, Bool.or_eq_true, Bool.not_not, Bool.and_eq_false_iff, Bool.or_eq_false_iff, Int.not_lt, Int.not_le] at hc0')
      refine CD.skip ?_
      refine CD.block ?_
      refine CD.region ?_
      refine OD.still (wants_plain rfl) rfl (still_mv rfl ot) ?_
      refine OD.still (wants_plain rfl) rfl (still_bin rfl ot opd_const (bin_add (wrap_i64 (by omega) (by omega)))) ?_
      refine OD.still (wants_plain rfl) rfl (still_as rfl ot) ?_
      refine OD.wk (Wk.as_ (n := 20) (l' := [(0, _), (1, _), (5, _)]) (S' := []) rfl rfl ⟨lk, lk, lk, trivial⟩) ?_
      refine OD.nil ?_
      refine ⟨(k + 1), ⟨20, [(0, .v (.string s)), (1, .clo (.func g) []), (5, .v (.int .i64 (((k + 1)) : Nat)))], []⟩, ?_, Wk.asS (n := 20) rfl (by repeat (first | exact List.Sublist.refl _ | apply List.Sublist.cons)) ⟨(by (repeat (first | exact look_hit | (apply look_at; focus (first | rfl | (simp; done) | (congr 2; omega))) | (apply look_miss; focus rfl))); done), (by (repeat (first | exact look_hit | (apply look_at; focus (first | rfl | (simp; done) | (congr 2; omega))) | (apply look_miss; focus rfl))); done), (by (repeat (first | exact look_hit | (apply look_at; focus (first | rfl | (simp; done) | (congr 2; omega))) | (apply look_miss; focus rfl))); done), trivial⟩, (by omega), (all_step (by rw [str_len]; exact hks) h0 (by rw [byteAt_get]; assumption)), rfl⟩
      first | omega | (simp only []; omega)
    · have hc0' := hc0
      (try simp only [decide_eq_true_eq, decide_eq_false_iff_not, beq_iff_eq, bne_iff_ne, Bool.not_eq_true', Bool.not_eq_false', Bool.not_eq_true, Bool.not_eq_false, beq_eq_false_iff_ne, ne_eq, bne_eq_false_iff_eq, Bool.and_eq_true, Bool.or_eq_true, Bool.not_not, Bool.and_eq_false_iff, Bool.or_eq_false_iff, Int.not_lt, Int.not_le] at hc0')
      refine CD.exit ?_
      refine CD.seq ?_
      refine CD.region ?_
      refine OD.still (wants_plain rfl) rfl (still_mv rfl ot) ?_
      refine OD.still (wants_plain rfl) rfl (still_as rfl ot) ?_
      refine OD.wk (Wk.as_ (n := 20) (l' := [(4, _)]) (S' := []) rfl rfl ⟨lk, trivial⟩) ?_
      refine OD.nil ?_
      refine CD.ret ?_
      refine ⟨.inr rfl, _, [], List.nil_sublist _, ret_one Tryd.results49 (res_tmp (Nat.le_of_ble_eq_true rfl) lk), ?_⟩
      refine ⟨vi ?_, rfl⟩
      first | (rw [span_eq hk h0 (fun h => by omega)]; done) | (rw [span_eq hk h0 (fun h => by assumption)]; done)
  · have hg10' := hg10; (try simp only [decide_eq_true_eq, decide_eq_false_iff_not, beq_iff_eq, bne_iff_ne, Bool.not_eq_true', Bool.not_eq_false', Bool.not_eq_true, Bool.not_eq_false, beq_eq_false_iff_ne, ne_eq, bne_eq_false_iff_eq, Bool.and_eq_true, Bool.or_eq_true, Bool.not_not] at hg10')
    refine OD.skip (wants_F rfl rfl rfl lk (by first | rfl | assumption)) rfl ?_
    refine OD.skip (wants_F rfl rfl rfl lk (by first | rfl | assumption)) rfl ?_
    refine OD.skip (wants_F rfl rfl rfl lk (by first | rfl | assumption)) rfl ?_
    refine OD.skip (wants_F rfl rfl rfl lk (by first | rfl | assumption)) rfl ?_
    refine OD.skip (wants_F rfl rfl rfl lk (by first | rfl | assumption)) rfl ?_
    refine OD.still (wants_plain rfl) rfl (still_pickF rfl ot (by first | rfl | assumption) opd_const) ?_
    refine OD.wk (Wk.as_ (n := 20) (l' := [(0, _), (1, _), (5, _), (16, _)]) (S' := []) rfl rfl ⟨lk, lk, lk, lk, trivial⟩) ?_
    refine OD.nil ?_
    refine CD.condF ot (by first | rfl | assumption) ?_
    refine CD.exit ?_
    refine CD.seq ?_
    refine CD.region ?_
    refine OD.still (wants_plain rfl) rfl (still_mv rfl ot) ?_
    refine OD.still (wants_plain rfl) rfl (still_as rfl ot) ?_
    refine OD.wk (Wk.as_ (n := 20) (l' := [(4, _)]) (S' := []) rfl rfl ⟨lk, trivial⟩) ?_
    refine OD.nil ?_
    refine CD.ret ?_
    refine ⟨.inr rfl, _, [], List.nil_sublist _, ret_one Tryd.results49 (res_tmp (Nat.le_of_ble_eq_true rfl) lk), ?_⟩
    refine ⟨vi ?_, rfl⟩
    first | (rw [span_eq hk h0 (fun h => by omega)]; done) | (rw [span_eq hk h0 (fun h => by assumption)]; done)

theorem index_vp (ss : List ByteArray) (s : ByteArray) (hlen : ss.length ≤ maxLen) : VP Tryd.prog G 52 [.list 1 (ss.flatMap cS) ss.length, .v (.string s)] (.v (.int .i64 (idxG (eqS s) ss))) := by
  refine VC.body Tryd.func52 rfl Tryd.ntmps52 (Nat.le_of_ble_eq_true rfl) fun X0 w0 S00 => ?_
  simp only [maxLen] at hlen
  refine CD.seq ?_
  refine CD.region ?_
  refine OD.still (wants_plain rfl) rfl (still_as rfl opd_const) ?_
  refine OD.wk (Wk.as_ (n := 19) (l' := [(0, _), (1, _)]) (S' := []) rfl rfl ⟨lk, lk, trivial⟩) ?_
  refine OD.nil ?_
  refine CD.seq ?_
  refine CD.seq ?_
  refine CD.region ?_
  refine OD.still (wants_plain rfl) rfl (still_mv rfl ot) ?_
  refine OD.still (wants_plain rfl) rfl (still_r1 (mk := fun y => .call { callee := .builtin .len, args := #[y], argTypes := #[41] }) rfl ot (by first | exact len_list rfl Tryd.runUnderlying41 | exact len_row rfl Tryd.runUnderlying41)) ?_
  refine OD.still (wants_plain rfl) rfl (still_mv rfl opd_const) ?_
  refine OD.wk (Wk.as_ (n := 19) (l' := [(0, _), (1, _), (7, _), (8, _)]) (S' := []) rfl rfl ⟨lk, lk, lk, lk, trivial⟩) ?_
  refine OD.nil ?_
  refine CD.block ?_
  refine CD.wk (Wk.asS (n := 19) (l' := [(0, .list 1 (ss.flatMap cS) ss.length), (1, .v (.string s)), (7, .v (.int .i64 ss.length)), (8, .v (.int .i64 ((0) : Nat)))]) (S' := []) rfl (by repeat (first | exact List.Sublist.refl _ | apply List.Sublist.cons)) ⟨(by (repeat (first | exact look_hit | (apply look_at; focus (first | rfl | (simp; done) | (congr 2; omega))) | (apply look_miss; focus rfl))); done), (by (repeat (first | exact look_hit | (apply look_at; focus (first | rfl | (simp; done) | (congr 2; omega))) | (apply look_miss; focus rfl))); done), (by (repeat (first | exact look_hit | (apply look_at; focus (first | rfl | (simp; done) | (congr 2; omega))) | (apply look_miss; focus rfl))); done), (by (repeat (first | exact look_hit | (apply look_at; focus (first | rfl | (simp; done) | (congr 2; omega))) | (apply look_miss; focus rfl))); done), trivial⟩) (CD.loop (fun (k : Nat) y__ => (k ≤ ss.length) ∧ (∀ x ∈ ss.take k, eqS s x = false) ∧ y__ = (⟨19, [(0, .list 1 (ss.flatMap cS) ss.length), (1, .v (.string s)), (7, .v (.int .i64 ss.length)), (8, .v (.int .i64 (k : Nat)))], []⟩ : St)) (fun (k : Nat) => ss.length - k) 0 ⟨(Nat.zero_le _), (by simp), rfl⟩ ?_)
  rintro k _ ⟨hk, h0, rfl⟩
  refine CD.seq ?_
  refine CD.region ?_
  refine OD.still (wants_plain rfl) rfl (still_bin rfl ot ot bin_lss) ?_
  refine OD.wk (Wk.as_ (n := 19) (l' := [(0, _), (1, _), (7, _), (8, _), (9, _)]) (S' := []) rfl rfl ⟨lk, lk, lk, lk, lk, trivial⟩) ?_
  refine OD.nil ?_
  refine CD.seq ?_
  refine CD.cond ot (fun hc0 => ?_) (fun hc0 => ?_)
  · have hc0' := hc0
    (try simp only [decide_eq_true_eq, decide_eq_false_iff_not, beq_iff_eq, bne_iff_ne, Bool.not_eq_true', Bool.not_eq_false', Bool.not_eq_true, Bool.not_eq_false, beq_eq_false_iff_ne, ne_eq, bne_eq_false_iff_eq, Bool.and_eq_true, Bool.or_eq_true, Bool.not_not, Bool.and_eq_false_iff, Bool.or_eq_false_iff, Int.not_lt, Int.not_le] at hc0')
    have hlt : k < ss.length := by omega
    refine CD.skip ?_
    refine CD.seq ?_
    refine CD.block ?_
    refine CD.seq ?_
    refine CD.region ?_
    refine OD.still (wants_plain rfl) rfl (still_mv rfl ot) ?_
    refine OD.still (wants_plain rfl) rfl (still_as rfl ot) ?_
    refine OD.wk (Wk.as_ (n := 19) (l' := [(0, _), (1, _), (5, _), (7, _), (8, _)]) (S' := []) rfl rfl ⟨lk, lk, lk, lk, lk, trivial⟩) ?_
    refine OD.nil ?_
    refine CD.seq ?_
    refine CD.region ?_
    refine OD.still (wants_plain rfl) rfl (still_mv rfl ot) ?_
    refine OD.still (wants_plain rfl) rfl (still_mv rfl ot) ?_
    refine OD.still (wants_plain rfl) rfl (still_mv rfl ot) ?_
    refine OD.still (wants_plain rfl) rfl (still_r2 (mk := Op.indexAddr 41) rfl ot ot (by first | exact ix_list Tryd.runUnderlying41 Tryd.sizeOf9 rfl (by first | assumption | omega) | exact ix_list (j := Int.toNat _) Tryd.runUnderlying41 Tryd.sizeOf9 (Int.toNat_of_nonneg (by omega)).symm (by omega) | exact ix_row Tryd.runUnderlying41 Tryd.sizeOf9 rfl (by first | assumption | omega) | exact ix_row (j := Int.toNat _) Tryd.runUnderlying41 Tryd.sizeOf9 (Int.toNat_of_nonneg (by omega)).symm (by omega))) ?_
    refine OD.still (wants_plain rfl) rfl (still_r1 (mk := Op.load 9) rfl ot (by first | exact ld_fm cS_len Tryd.isAgg9 (by first | assumption | omega) rfl | exact ld_fm0 cS_len Tryd.isAgg9 (by first | assumption | omega) rfl | exact ld_i Tryd.isAgg9 rfl)) ?_
    refine OD.still (wants_plain rfl) rfl (still_bin rfl ot ot bin_seql) ?_
    refine OD.wk (Wk.as_ (n := 19) (l' := [(0, _), (1, _), (5, _), (7, _), (8, _), (16, _)]) (S' := []) rfl rfl ⟨lk, lk, lk, lk, lk, lk, trivial⟩) ?_
    refine OD.nil ?_
    refine CD.cond ot (fun hc1 => ?_) (fun hc1 => ?_)
    · have hc1' := hc1
      (try simp only [decide_eq_true_eq, decide_eq_false_iff_not, beq_iff_eq, bne_iff_ne, Bool.not_eq_true', Bool.not_eq_false', Bool.not_eq_true, Bool.not_eq_false, beq_eq_false_iff_ne, ne_eq, bne_eq_false_iff_eq, Bool.and_eq_true, Bool.or_eq_true, Bool.not_not, Bool.and_eq_false_iff, Bool.or_eq_false_iff, Int.not_lt, Int.not_le] at hc1')
      refine CD.seq ?_
      refine CD.region ?_
      refine OD.still (wants_plain rfl) rfl (still_mv rfl ot) ?_
      refine OD.still (wants_plain rfl) rfl (still_as rfl ot) ?_
      refine OD.wk (Wk.as_ (n := 19) (l' := [(4, _)]) (S' := []) rfl rfl ⟨lk, trivial⟩) ?_
      refine OD.nil ?_
      refine CD.ret ?_
      refine ⟨.inr rfl, _, [], List.nil_sublist _, ret_one Tryd.results52 (res_tmp (Nat.le_of_ble_eq_true rfl) lk), ?_⟩
      refine ⟨vi ?_, rfl⟩
      first | (rw [idxG_hit (by omega) h0 hc1]; done) | (rw [idxG_none (by omega) h0]; done)
    · have hc1' := hc1
      (try simp only [decide_eq_true_eq, decide_eq_false_iff_not, beq_iff_eq, bne_iff_ne, Bool.not_eq_true', Bool.not_eq_false', Bool.not_eq_true, Bool.not_eq_false, beq_eq_false_iff_ne, ne_eq, bne_eq_false_iff_eq, Bool.and_eq_true, Bool.or_eq_true, Bool.not_not, Bool.and_eq_false_iff, Bool.or_eq_false_iff, Int.not_lt, Int.not_le] at hc1')
      refine CD.skip ?_
      refine CD.region ?_
      refine OD.still (wants_plain rfl) rfl (still_bin rfl ot opd_const (bin_add (wrap_i64 (by omega) (by omega)))) ?_
      refine OD.still (wants_plain rfl) rfl (still_mv rfl ot) ?_
      refine OD.wk (Wk.as_ (n := 19) (l' := [(0, _), (1, _), (7, _), (8, _)]) (S' := []) rfl rfl ⟨lk, lk, lk, lk, trivial⟩) ?_
      refine OD.nil ?_
      refine ⟨(k + 1), ⟨19, [(0, .list 1 (ss.flatMap cS) ss.length), (1, .v (.string s)), (7, .v (.int .i64 ss.length)), (8, .v (.int .i64 (((k + 1)) : Nat)))], []⟩, ?_, Wk.asS (n := 19) rfl (by repeat (first | exact List.Sublist.refl _ | apply List.Sublist.cons)) ⟨(by (repeat (first | exact look_hit | (apply look_at; focus (first | rfl | (simp; done) | (congr 2; omega))) | (apply look_miss; focus rfl))); done), (by (repeat (first | exact look_hit | (apply look_at; focus (first | rfl | (simp; done) | (congr 2; omega))) | (apply look_miss; focus rfl))); done), (by (repeat (first | exact look_hit | (apply look_at; focus (first | rfl | (simp; done) | (congr 2; omega))) | (apply look_miss; focus rfl))); done), (by (repeat (first | exact look_hit | (apply look_at; focus (first | rfl | (simp; done) | (congr 2; omega))) | (apply look_miss; focus rfl))); done), trivial⟩, (by omega), (all_step (by omega) h0 hc1), rfl⟩
      first | omega | (simp only []; omega)
  · have hc0' := hc0
    (try simp only [decide_eq_true_eq, decide_eq_false_iff_not, beq_iff_eq, bne_iff_ne, Bool.not_eq_true', Bool.not_eq_false', Bool.not_eq_true, Bool.not_eq_false, beq_eq_false_iff_ne, ne_eq, bne_eq_false_iff_eq, Bool.and_eq_true, Bool.or_eq_true, Bool.not_not, Bool.and_eq_false_iff, Bool.or_eq_false_iff, Int.not_lt, Int.not_le] at hc0')
    refine CD.exit ?_
    refine CD.seq ?_
    refine CD.region ?_
    refine OD.still (wants_plain rfl) rfl (still_as rfl opd_const) ?_
    refine OD.wk (Wk.as_ (n := 19) (l' := [(4, _)]) (S' := []) rfl rfl ⟨lk, trivial⟩) ?_
    refine OD.nil ?_
    refine CD.ret ?_
    refine ⟨.inr rfl, _, [], List.nil_sublist _, ret_one Tryd.results52 (res_tmp (Nat.le_of_ble_eq_true rfl) lk), ?_⟩
    refine ⟨vi ?_, rfl⟩
    first | (rw [idxG_hit (by omega) h0 hc1]; done) | (rw [idxG_none (by omega) h0]; done)

theorem contains_vp (ss : List ByteArray) (s : ByteArray) (hlen : ss.length ≤ maxLen) : VP Tryd.prog G 35 [.list 1 (ss.flatMap cS) ss.length, .v (.string s)] (.v (.bool (ss.any (eqS s)))) := by
  refine VC.body Tryd.func35 rfl Tryd.ntmps35 (Nat.le_of_ble_eq_true rfl) fun X0 w0 S00 => ?_
  refine CD.seq ?_
  refine CD.region ?_
  refine OD.still (wants_plain rfl) rfl (still_as rfl opd_const) ?_
  refine OD.wk (Wk.as_ (n := 9) (l' := [(0, _), (1, _)]) (S' := []) rfl rfl ⟨lk, lk, trivial⟩) ?_
  refine OD.nil ?_
  refine CD.seq ?_
  refine CD.region ?_
  refine OD.still (wants_plain rfl) rfl (still_mv rfl ot) ?_
  refine OD.still (wants_plain rfl) rfl (still_mv rfl ot) ?_
  refine OD.callP (wants_plain rfl) rfl rfl rfl Tryd.call52 (index_vp ss s hlen) ⟨ot, ot, trivial⟩ ?_
  refine OD.still (wants_plain rfl) rfl (still_bin rfl ot opd_const bin_geq) ?_
  refine OD.still (wants_plain rfl) rfl (still_as rfl ot) ?_
  refine OD.wk (Wk.as_ (n := 9) (l' := [(4, _)]) (S' := []) rfl rfl ⟨lk, trivial⟩) ?_
  refine OD.nil ?_
  refine CD.ret ?_
  refine ⟨.inr rfl, _, [], List.nil_sublist _, ret_one Tryd.results35 (res_tmp (Nat.le_of_ble_eq_true rfl) lk), ?_⟩
  exact ⟨vb idxG_any, rfl⟩

theorem check_vp (hm : (1, marksC) ∈ G) (t : Tk) (hs : t.s.size ≤ maxLen) : VP Tryd.prog G 34 [.agg (cT t)] (.v (.int .i64 (checkT t))) := by
  refine VC.body Tryd.func34 rfl Tryd.ntmps34 (Nat.le_of_ble_eq_true rfl) fun X0 w0 S00 => ?_
  unfold cT
  refine CD.seq ?_
  refine CD.region ?_
  refine OD.box (ds := [_, _, _]) (wants_plain rfl) rfl rfl ot rfl rfl (fun b1 => ?_)
  refine OD.still (wants_plain rfl) rfl (still_as rfl opd_const) ?_
  refine OD.wk (Wk.as_ (n := 53) (l' := [(1, _)]) (S' := [⟨b1, 76, 3, [_, _, _]⟩]) rfl rfl ⟨lk, trivial⟩) ?_
  refine OD.nil ?_
  refine CD.seq ?_
  refine CD.region ?_
  refine OD.still (wants_plain rfl) rfl (still_r1 (mk := fun y => Op.fieldAddr 76 y 2) rfl ot (by first | exact fa_ptr (off := 2) Tryd.runUnderlying76 rfl Tryd.sizeOf3 rfl | exact fa_iptr (off := 2) Tryd.runUnderlying76 rfl Tryd.sizeOf3 rfl)) ?_
  refine OD.still (wants_plain rfl) rfl (still_r1 (mk := Op.load 3) rfl ot (by first | exact ld_blk (k := 0) rfl rfl Tryd.isAgg3 rfl | exact ld_i Tryd.isAgg3 rfl)) ?_
  refine OD.still (wants_plain rfl) rfl (still_bin rfl ot opd_const bin_eql) ?_
  refine OD.still (wants_plain rfl) rfl (still_as rfl ot) ?_
  refine OD.wk (Wk.as_ (n := 53) (l' := [(1, _), (3, _)]) (S' := [⟨b1, 76, 3, [_, _, _]⟩]) rfl rfl ⟨lk, lk, trivial⟩) ?_
  refine OD.nil ?_
  refine CD.seq ?_
  refine CD.seq ?_
  refine CD.region ?_
  refine OD.still (wants_plain rfl) rfl (still_r1 (mk := fun y => Op.fieldAddr 76 y 0) rfl ot (by first | exact fa_ptr (off := 0) Tryd.runUnderlying76 rfl Tryd.sizeOf3 rfl | exact fa_iptr (off := 0) Tryd.runUnderlying76 rfl Tryd.sizeOf3 rfl)) ?_
  refine OD.still (wants_plain rfl) rfl (still_r1 (mk := Op.load 3) rfl ot (by first | exact ld_blk (k := 0) rfl rfl Tryd.isAgg3 rfl | exact ld_i Tryd.isAgg3 rfl)) ?_
  refine OD.wk (Wk.as_ (n := 53) (l' := [(1, _), (3, _), (8, _)]) (S' := [⟨b1, 76, 3, [_, _, _]⟩]) rfl rfl ⟨lk, lk, lk, trivial⟩) ?_
  refine OD.nil ?_
  refine CD.block ?_
  refine CD.seq ?_
  refine CD.region ?_
  refine OD.still (wants_plain rfl) rfl (still_bin rfl ot opd_const bin_eql) ?_
  refine OD.still (wants_plain rfl) rfl (still_as rfl ot) ?_
  refine OD.wk (Wk.as_ (n := 53) (l' := [(1, _), (3, _), (8, _), (9, _)]) (S' := [⟨b1, 76, 3, [_, _, _]⟩]) rfl rfl ⟨lk, lk, lk, lk, trivial⟩) ?_
  refine OD.nil ?_
  refine CD.cond ot (fun hc0 => ?_) (fun hc0 => ?_)
  · have hc0' := hc0
    (try simp only [decide_eq_true_eq, decide_eq_false_iff_not, beq_iff_eq, bne_iff_ne, Bool.not_eq_true', Bool.not_eq_false', Bool.not_eq_true, Bool.not_eq_false, beq_eq_false_iff_ne, ne_eq, bne_eq_false_iff_eq, Bool.and_eq_true, Bool.or_eq_true, Bool.not_not, Bool.and_eq_false_iff, Bool.or_eq_false_iff, Int.not_lt, Int.not_le] at hc0')
    refine CD.draw (bks _) (by kernel_rfl) (fun _ h => h) ?_
    refine AD0.take (i := 0) rfl (by kernel_rfl) (by kernel_rfl) (by kernel_rfl) (by repeat (first | exact NP.body | apply NP.then | apply NP.cut | apply NP.inBlock | apply NP.round)) (wants_plain rfl) rfl (still_mv rfl ot) (by exact trivial) ?_
    refine AD0.take (i := 1) rfl (by kernel_rfl) (by kernel_rfl) (by kernel_rfl) (by repeat (first | exact NP.body | apply NP.then | apply NP.cut | apply NP.inBlock | apply NP.round)) (wants_plain rfl) rfl (still_mv rfl ot) (by exact trivial) ?_
    refine AD0.split (t := 12) lk (fun hg12 => ?_) (fun hg12 => ?_)
    · have hg12' := hg12; (try simp only [decide_eq_true_eq, decide_eq_false_iff_not, beq_iff_eq, bne_iff_ne, Bool.not_eq_true', Bool.not_eq_false', Bool.not_eq_true, Bool.not_eq_false, beq_eq_false_iff_ne, ne_eq, bne_eq_false_iff_eq, Bool.and_eq_true, Bool.or_eq_true, Bool.not_not, Bool.and_eq_false_iff, Bool.or_eq_false_iff, Int.not_lt, Int.not_le] at hg12')
      refine AD0.take (i := 2) rfl (by kernel_rfl) (by kernel_rfl) (by kernel_rfl) (by repeat (first | exact NP.body | apply NP.then | apply NP.cut | apply NP.inBlock | apply NP.round)) (wants_T rfl rfl rfl lk (by first | rfl | assumption)) rfl (still_r1 (mk := fun y => Op.fieldAddr 76 y 1) rfl ot (by first | exact fa_ptr (off := 1) Tryd.runUnderlying76 rfl Tryd.sizeOf9 rfl | exact fa_iptr (off := 1) Tryd.runUnderlying76 rfl Tryd.sizeOf9 rfl)) (by exact trivial) ?_
      refine AD0.take (i := 3) rfl (by kernel_rfl) (by kernel_rfl) (by kernel_rfl) (by repeat (first | exact NP.body | apply NP.then | apply NP.cut | apply NP.inBlock | apply NP.round)) (wants_T rfl rfl rfl lk (by first | rfl | assumption)) rfl (still_r1 (mk := Op.load 9) rfl ot (by first | exact ld_blk (k := 0) rfl rfl Tryd.isAgg9 rfl | exact ld_i Tryd.isAgg9 rfl)) (by first | exact trivial | exact safe_blk (k0 := 0) rfl rfl) ?_
      refine AD0.take (i := 4) rfl (by kernel_rfl) (by kernel_rfl) (by kernel_rfl) (by repeat (first | exact NP.body | apply NP.then | apply NP.cut | apply NP.inBlock | apply NP.round)) (wants_T rfl rfl rfl lk (by first | rfl | assumption)) rfl (still_bin rfl ot opd_const bin_sneq) (by exact trivial) ?_
      refine AD0.take (i := 5) rfl (by kernel_rfl) (by kernel_rfl) (by kernel_rfl) (by repeat (first | exact NP.body | apply NP.then | apply NP.cut | apply NP.inBlock | apply NP.round)) (wants_plain rfl) rfl (still_pickT rfl ot (by first | rfl | assumption) ot) (by exact trivial) ?_
      refine AD0.take (i := 6) rfl (by kernel_rfl) (by kernel_rfl) (by kernel_rfl) (by repeat (first | exact NP.body | apply NP.then | apply NP.cut | apply NP.inBlock | apply NP.round)) (wants_plain rfl) rfl (still_mv rfl ot) (by exact trivial) ?_
      refine AD0.split (t := 17) lk (fun hg17 => ?_) (fun hg17 => ?_)
      · have hg17' := hg17; (try simp only [decide_eq_true_eq, decide_eq_false_iff_not, beq_iff_eq, bne_iff_ne, Bool.not_eq_true', Bool.not_eq_false', Bool.not_eq_true, Bool.not_eq_false, beq_eq_false_iff_ne, ne_eq, bne_eq_false_iff_eq, Bool.and_eq_true, Bool.or_eq_true, Bool.not_not, Bool.and_eq_false_iff, Bool.or_eq_false_iff, Int.not_lt, Int.not_le] at hg17')
        refine AD0.take (i := 7) rfl (by kernel_rfl) (by kernel_rfl) (by kernel_rfl) (by repeat (first | exact NP.body | apply NP.then | apply NP.cut | apply NP.inBlock | apply NP.round)) (wants_T rfl rfl rfl lk (by first | rfl | assumption)) rfl (still_r1 (mk := fun y => Op.fieldAddr 76 y 1) rfl ot (by first | exact fa_ptr (off := 1) Tryd.runUnderlying76 rfl Tryd.sizeOf9 rfl | exact fa_iptr (off := 1) Tryd.runUnderlying76 rfl Tryd.sizeOf9 rfl)) (by exact trivial) ?_
        refine AD0.take (i := 8) rfl (by kernel_rfl) (by kernel_rfl) (by kernel_rfl) (by repeat (first | exact NP.body | apply NP.then | apply NP.cut | apply NP.inBlock | apply NP.round)) (wants_T rfl rfl rfl lk (by first | rfl | assumption)) rfl (still_r1 (mk := Op.load 9) rfl ot (by first | exact ld_blk (k := 0) rfl rfl Tryd.isAgg9 rfl | exact ld_i Tryd.isAgg9 rfl)) (by first | exact trivial | exact safe_blk (k0 := 0) rfl rfl) ?_
        refine AD0.take (i := 9) rfl (by kernel_rfl) (by kernel_rfl) (by kernel_rfl) (by repeat (first | exact NP.body | apply NP.then | apply NP.cut | apply NP.inBlock | apply NP.round)) (wants_T rfl rfl rfl lk (by first | rfl | assumption)) rfl (still_sidx (c := byteAt t.s 0) rfl ot opd_const Tryd.runUnderlying9 rfl (str_at (str_ne (by assumption)))) (by exact trivial) ?_
        refine AD0.later rfl ?_
        refine AD.one (i := 10) (by kernel_rfl) ?_
        refine AStep.callP rfl (wants_T rfl rfl rfl lk (by first | rfl | assumption)) rfl rfl rfl Tryd.call48 (letter_vp _) ⟨ot, trivial⟩ ?_
        refine AD.take (i := 11) rfl (by kernel_rfl) (by kernel_rfl) (by kernel_rfl) (by repeat (first | exact NP.body | apply NP.then | apply NP.cut | apply NP.inBlock | apply NP.round)) (wants_plain rfl) rfl (still_pickT rfl ot (by first | rfl | assumption) ot) (by exact trivial) (by intro h; cases h) ?_
        refine AD.take (i := 12) rfl (by kernel_rfl) (by kernel_rfl) (by kernel_rfl) (by repeat (first | exact NP.body | apply NP.then | apply NP.cut | apply NP.inBlock | apply NP.round)) (wants_plain rfl) rfl (still_mv rfl ot) (by exact trivial) (by intro h; cases h) ?_
        refine AD.split (t := 23) lk (fun hg23 => ?_) (fun hg23 => ?_)
        · have hg23' := hg23; (try simp only [decide_eq_true_eq, decide_eq_false_iff_not, beq_iff_eq, bne_iff_ne, Bool.not_eq_true', Bool.not_eq_false', Bool.not_eq_true, Bool.not_eq_false, beq_eq_false_iff_ne, ne_eq, bne_eq_false_iff_eq, Bool.and_eq_true, Bool.or_eq_true, Bool.not_not, Bool.and_eq_false_iff, Bool.or_eq_false_iff, Int.not_lt, Int.not_le] at hg23')
          refine AD.take (i := 13) rfl (by kernel_rfl) (by kernel_rfl) (by kernel_rfl) (by repeat (first | exact NP.body | apply NP.then | apply NP.cut | apply NP.inBlock | apply NP.round)) (wants_T rfl rfl rfl lk (by first | rfl | assumption)) rfl (still_r1 (mk := fun y => Op.fieldAddr 76 y 1) rfl ot (by first | exact fa_ptr (off := 1) Tryd.runUnderlying76 rfl Tryd.sizeOf9 rfl | exact fa_iptr (off := 1) Tryd.runUnderlying76 rfl Tryd.sizeOf9 rfl)) (by exact trivial) (by intro h; cases h) ?_
          refine AD.take (i := 16) rfl (by kernel_rfl) (by kernel_rfl) (by kernel_rfl) (by repeat (first | exact NP.body | apply NP.then | apply NP.cut | apply NP.inBlock | apply NP.round)) (wants_T rfl rfl rfl lk (by first | rfl | assumption)) rfl (still_r1 (mk := fun y => Op.fieldAddr 76 y 1) rfl ot (by first | exact fa_ptr (off := 1) Tryd.runUnderlying76 rfl Tryd.sizeOf9 rfl | exact fa_iptr (off := 1) Tryd.runUnderlying76 rfl Tryd.sizeOf9 rfl)) (by exact trivial) (by intro h; cases h) ?_
          refine AD.two (i := 14) (j := 17) (by kernel_rfl) ?_ ?_
          · skip
            refine AStep.still rfl (wants_T rfl rfl rfl lk (by first | rfl | assumption)) rfl (still_r1 (mk := Op.load 9) rfl ot (by first | exact ld_blk (k := 0) rfl rfl Tryd.isAgg9 rfl | exact ld_i Tryd.isAgg9 rfl)) ?_
            refine AD.two (i := 15) (j := 17) (by kernel_rfl) ?_ ?_
            · skip
              refine AStep.callP rfl (wants_T rfl rfl rfl lk (by first | rfl | assumption)) rfl rfl rfl Tryd.call49 (span_vp t.s 50 wordB Tryd.call50 wordB_vp hs) ⟨ot, opd_func, trivial⟩ ?_
              refine AD.one (i := 17) (by kernel_rfl) ?_
              refine AStep.still rfl (wants_T rfl rfl rfl lk (by first | rfl | assumption)) rfl (still_r1 (mk := Op.load 9) rfl ot (by first | exact ld_blk (k := 0) rfl rfl Tryd.isAgg9 rfl | exact ld_i Tryd.isAgg9 rfl)) ?_
              refine AD.take (i := 18) rfl (by kernel_rfl) (by kernel_rfl) (by kernel_rfl) (by repeat (first | exact NP.body | apply NP.then | apply NP.cut | apply NP.inBlock | apply NP.round)) (wants_T rfl rfl rfl lk (by first | rfl | assumption)) rfl (still_slen rfl rfl ot Tryd.runUnderlying9) (by exact trivial) (by intro h; cases h) ?_
              refine AD.take (i := 19) rfl (by kernel_rfl) (by kernel_rfl) (by kernel_rfl) (by repeat (first | exact NP.body | apply NP.then | apply NP.cut | apply NP.inBlock | apply NP.round)) (wants_T rfl rfl rfl lk (by first | rfl | assumption)) rfl (still_bin rfl ot ot bin_eql) (by exact trivial) (by intro h; cases h) ?_
              refine AD.take (i := 20) rfl (by kernel_rfl) (by kernel_rfl) (by kernel_rfl) (by repeat (first | exact NP.body | apply NP.then | apply NP.cut | apply NP.inBlock | apply NP.round)) (wants_plain rfl) rfl (still_pickT rfl ot (by first | rfl | assumption) ot) (by exact trivial) (by intro h; cases h) ?_
              refine AD.take (i := 21) rfl (by kernel_rfl) (by kernel_rfl) (by kernel_rfl) (by repeat (first | exact NP.body | apply NP.then | apply NP.cut | apply NP.inBlock | apply NP.round)) (wants_plain rfl) rfl (still_as rfl ot) (by exact trivial) (by intro h; cases h) ?_
              refine AD.wk (y := ⟨53, [(3, _)], [⟨b1, 76, 3, [_, _, _]⟩]⟩) (Wk.as_ rfl rfl ⟨lk, trivial⟩) rfl ?_
              refine AD.done (by kernel_rfl) ?_
              refine CD.seq ?_
              refine CD.seq ?_
              refine CD.region ?_
              refine OD.still (wants_plain rfl) rfl (still_mv rfl ot) ?_
              refine OD.still (wants_plain rfl) rfl (still_un rfl ot un_not) ?_
              refine OD.wk (Wk.as_ (n := 53) (l' := [(52, _)]) (S' := [⟨b1, 76, 3, [_, _, _]⟩]) rfl rfl ⟨lk, trivial⟩) ?_
              refine OD.nil ?_
              refine CD.cond ot (fun hc5 => ?_) (fun hc5 => ?_)
              · have hc5' := hc5
                (try simp only [decide_eq_true_eq, decide_eq_false_iff_not, beq_iff_eq, bne_iff_ne, Bool.not_eq_true', Bool.not_eq_false', Bool.not_eq_true, Bool.not_eq_false, beq_eq_false_iff_ne, ne_eq, bne_eq_false_iff_eq, Bool.and_eq_true, Bool.or_eq_true, Bool.not_not, Bool.and_eq_false_iff, Bool.or_eq_false_iff, Int.not_lt, Int.not_le] at hc5')
                refine CD.seq ?_
                refine CD.region ?_
                refine OD.still (wants_plain rfl) rfl (still_as rfl opd_const) ?_
                refine OD.wk (Wk.as_ (n := 53) (l' := [(2, _)]) (S' := [⟨b1, 76, 3, [_, _, _]⟩]) rfl rfl ⟨lk, trivial⟩) ?_
                refine OD.nil ?_
                refine CD.ret ?_
                refine ⟨.inr rfl, _, [], List.nil_sublist _, ret_one Tryd.results34 (res_tmp (Nat.le_of_ble_eq_true rfl) lk), ?_⟩
                refine ⟨vi ?_, rfl⟩
                try simp only [str_eq0] at *
                simp only [checkT, okWord]
                try simp_all
                try omega
              · have hc5' := hc5
                (try simp only [decide_eq_true_eq, decide_eq_false_iff_not, beq_iff_eq, bne_iff_ne, Bool.not_eq_true', Bool.not_eq_false', Bool.not_eq_true, Bool.not_eq_false, beq_eq_false_iff_ne, ne_eq, bne_eq_false_iff_eq, Bool.and_eq_true, Bool.or_eq_true, Bool.not_not, Bool.and_eq_false_iff, Bool.or_eq_false_iff, Int.not_lt, Int.not_le] at hc5')
                refine CD.skip ?_
                refine CD.seq ?_
                refine CD.region ?_
                refine OD.still (wants_plain rfl) rfl (still_as rfl opd_const) ?_
                refine OD.wk (Wk.as_ (n := 53) (l' := [(2, _)]) (S' := [⟨b1, 76, 3, [_, _, _]⟩]) rfl rfl ⟨lk, trivial⟩) ?_
                refine OD.nil ?_
                refine CD.ret ?_
                refine ⟨.inr rfl, _, [], List.nil_sublist _, ret_one Tryd.results34 (res_tmp (Nat.le_of_ble_eq_true rfl) lk), ?_⟩
                refine ⟨vi ?_, rfl⟩
                try simp only [str_eq0] at *
                simp only [checkT, okWord]
                try simp_all
                try omega
            · skip
              refine AStep.still rfl (wants_T rfl rfl rfl lk (by first | rfl | assumption)) rfl (still_r1 (mk := Op.load 9) rfl ot (by first | exact ld_blk (k := 0) rfl rfl Tryd.isAgg9 rfl | exact ld_i Tryd.isAgg9 rfl)) ?_
              refine AD.take (i := 18) rfl (by kernel_rfl) (by kernel_rfl) (by kernel_rfl) (by repeat (first | exact NP.body | apply NP.then | apply NP.cut | apply NP.inBlock | apply NP.round)) (wants_T rfl rfl rfl lk (by first | rfl | assumption)) rfl (still_slen rfl rfl ot Tryd.runUnderlying9) (by exact trivial) (by intro h; cases h) ?_
              refine AD.one (i := 15) (by kernel_rfl) ?_
              refine AStep.callP rfl (wants_T rfl rfl rfl lk (by first | rfl | assumption)) rfl rfl rfl Tryd.call49 (span_vp t.s 50 wordB Tryd.call50 wordB_vp hs) ⟨ot, opd_func, trivial⟩ ?_
              refine AD.take (i := 19) rfl (by kernel_rfl) (by kernel_rfl) (by kernel_rfl) (by repeat (first | exact NP.body | apply NP.then | apply NP.cut | apply NP.inBlock | apply NP.round)) (wants_T rfl rfl rfl lk (by first | rfl | assumption)) rfl (still_bin rfl ot ot bin_eql) (by exact trivial) (by intro h; cases h) ?_
              refine AD.take (i := 20) rfl (by kernel_rfl) (by kernel_rfl) (by kernel_rfl) (by repeat (first | exact NP.body | apply NP.then | apply NP.cut | apply NP.inBlock | apply NP.round)) (wants_plain rfl) rfl (still_pickT rfl ot (by first | rfl | assumption) ot) (by exact trivial) (by intro h; cases h) ?_
              refine AD.take (i := 21) rfl (by kernel_rfl) (by kernel_rfl) (by kernel_rfl) (by repeat (first | exact NP.body | apply NP.then | apply NP.cut | apply NP.inBlock | apply NP.round)) (wants_plain rfl) rfl (still_as rfl ot) (by exact trivial) (by intro h; cases h) ?_
              refine AD.wk (y := ⟨53, [(3, _)], [⟨b1, 76, 3, [_, _, _]⟩]⟩) (Wk.as_ rfl rfl ⟨lk, trivial⟩) rfl ?_
              refine AD.done (by kernel_rfl) ?_
              refine CD.seq ?_
              refine CD.seq ?_
              refine CD.region ?_
              refine OD.still (wants_plain rfl) rfl (still_mv rfl ot) ?_
              refine OD.still (wants_plain rfl) rfl (still_un rfl ot un_not) ?_
              refine OD.wk (Wk.as_ (n := 53) (l' := [(52, _)]) (S' := [⟨b1, 76, 3, [_, _, _]⟩]) rfl rfl ⟨lk, trivial⟩) ?_
              refine OD.nil ?_
              refine CD.cond ot (fun hc5 => ?_) (fun hc5 => ?_)
              · have hc5' := hc5
                (try simp only [decide_eq_true_eq, decide_eq_false_iff_not, beq_iff_eq, bne_iff_ne, Bool.not_eq_true', Bool.not_eq_false', Bool.not_eq_true, Bool.not_eq_false, beq_eq_false_iff_ne, ne_eq, bne_eq_false_iff_eq, Bool.and_eq_true, Bool.or_eq_true, Bool.not_not, Bool.and_eq_false_iff, Bool.or_eq_false_iff, Int.not_lt, Int.not_le] at hc5')
                refine CD.seq ?_
                refine CD.region ?_
                refine OD.still (wants_plain rfl) rfl (still_as rfl opd_const) ?_
                refine OD.wk (Wk.as_ (n := 53) (l' := [(2, _)]) (S' := [⟨b1, 76, 3, [_, _, _]⟩]) rfl rfl ⟨lk, trivial⟩) ?_
                refine OD.nil ?_
                refine CD.ret ?_
                refine ⟨.inr rfl, _, [], List.nil_sublist _, ret_one Tryd.results34 (res_tmp (Nat.le_of_ble_eq_true rfl) lk), ?_⟩
                refine ⟨vi ?_, rfl⟩
                try simp only [str_eq0] at *
                simp only [checkT, okWord]
                try simp_all
                try omega
              · have hc5' := hc5
                (try simp only [decide_eq_true_eq, decide_eq_false_iff_not, beq_iff_eq, bne_iff_ne, Bool.not_eq_true', Bool.not_eq_false', Bool.not_eq_true, Bool.not_eq_false, beq_eq_false_iff_ne, ne_eq, bne_eq_false_iff_eq, Bool.and_eq_true, Bool.or_eq_true, Bool.not_not, Bool.and_eq_false_iff, Bool.or_eq_false_iff, Int.not_lt, Int.not_le] at hc5')
                refine CD.skip ?_
                refine CD.seq ?_
                refine CD.region ?_
                refine OD.still (wants_plain rfl) rfl (still_as rfl opd_const) ?_
                refine OD.wk (Wk.as_ (n := 53) (l' := [(2, _)]) (S' := [⟨b1, 76, 3, [_, _, _]⟩]) rfl rfl ⟨lk, trivial⟩) ?_
                refine OD.nil ?_
                refine CD.ret ?_
                refine ⟨.inr rfl, _, [], List.nil_sublist _, ret_one Tryd.results34 (res_tmp (Nat.le_of_ble_eq_true rfl) lk), ?_⟩
                refine ⟨vi ?_, rfl⟩
                try simp only [str_eq0] at *
                simp only [checkT, okWord]
                try simp_all
                try omega
          · skip
            refine AStep.still rfl (wants_T rfl rfl rfl lk (by first | rfl | assumption)) rfl (still_r1 (mk := Op.load 9) rfl ot (by first | exact ld_blk (k := 0) rfl rfl Tryd.isAgg9 rfl | exact ld_i Tryd.isAgg9 rfl)) ?_
            refine AD.take (i := 18) rfl (by kernel_rfl) (by kernel_rfl) (by kernel_rfl) (by repeat (first | exact NP.body | apply NP.then | apply NP.cut | apply NP.inBlock | apply NP.round)) (wants_T rfl rfl rfl lk (by first | rfl | assumption)) rfl (still_slen rfl rfl ot Tryd.runUnderlying9) (by exact trivial) (by intro h; cases h) ?_
            refine AD.one (i := 14) (by kernel_rfl) ?_
            refine AStep.still rfl (wants_T rfl rfl rfl lk (by first | rfl | assumption)) rfl (still_r1 (mk := Op.load 9) rfl ot (by first | exact ld_blk (k := 0) rfl rfl Tryd.isAgg9 rfl | exact ld_i Tryd.isAgg9 rfl)) ?_
            refine AD.one (i := 15) (by kernel_rfl) ?_
            refine AStep.callP rfl (wants_T rfl rfl rfl lk (by first | rfl | assumption)) rfl rfl rfl Tryd.call49 (span_vp t.s 50 wordB Tryd.call50 wordB_vp hs) ⟨ot, opd_func, trivial⟩ ?_
            refine AD.take (i := 19) rfl (by kernel_rfl) (by kernel_rfl) (by kernel_rfl) (by repeat (first | exact NP.body | apply NP.then | apply NP.cut | apply NP.inBlock | apply NP.round)) (wants_T rfl rfl rfl lk (by first | rfl | assumption)) rfl (still_bin rfl ot ot bin_eql) (by exact trivial) (by intro h; cases h) ?_
            refine AD.take (i := 20) rfl (by kernel_rfl) (by kernel_rfl) (by kernel_rfl) (by repeat (first | exact NP.body | apply NP.then | apply NP.cut | apply NP.inBlock | apply NP.round)) (wants_plain rfl) rfl (still_pickT rfl ot (by first | rfl | assumption) ot) (by exact trivial) (by intro h; cases h) ?_
            refine AD.take (i := 21) rfl (by kernel_rfl) (by kernel_rfl) (by kernel_rfl) (by repeat (first | exact NP.body | apply NP.then | apply NP.cut | apply NP.inBlock | apply NP.round)) (wants_plain rfl) rfl (still_as rfl ot) (by exact trivial) (by intro h; cases h) ?_
            refine AD.wk (y := ⟨53, [(3, _)], [⟨b1, 76, 3, [_, _, _]⟩]⟩) (Wk.as_ rfl rfl ⟨lk, trivial⟩) rfl ?_
            refine AD.done (by kernel_rfl) ?_
            refine CD.seq ?_
            refine CD.seq ?_
            refine CD.region ?_
            refine OD.still (wants_plain rfl) rfl (still_mv rfl ot) ?_
            refine OD.still (wants_plain rfl) rfl (still_un rfl ot un_not) ?_
            refine OD.wk (Wk.as_ (n := 53) (l' := [(52, _)]) (S' := [⟨b1, 76, 3, [_, _, _]⟩]) rfl rfl ⟨lk, trivial⟩) ?_
            refine OD.nil ?_
            refine CD.cond ot (fun hc5 => ?_) (fun hc5 => ?_)
            · have hc5' := hc5
              (try simp only [decide_eq_true_eq, decide_eq_false_iff_not, beq_iff_eq, bne_iff_ne, Bool.not_eq_true', Bool.not_eq_false', Bool.not_eq_true, Bool.not_eq_false, beq_eq_false_iff_ne, ne_eq, bne_eq_false_iff_eq, Bool.and_eq_true, Bool.or_eq_true, Bool.not_not, Bool.and_eq_false_iff, Bool.or_eq_false_iff, Int.not_lt, Int.not_le] at hc5')
              refine CD.seq ?_
              refine CD.region ?_
              refine OD.still (wants_plain rfl) rfl (still_as rfl opd_const) ?_
              refine OD.wk (Wk.as_ (n := 53) (l' := [(2, _)]) (S' := [⟨b1, 76, 3, [_, _, _]⟩]) rfl rfl ⟨lk, trivial⟩) ?_
              refine OD.nil ?_
              refine CD.ret ?_
              refine ⟨.inr rfl, _, [], List.nil_sublist _, ret_one Tryd.results34 (res_tmp (Nat.le_of_ble_eq_true rfl) lk), ?_⟩
              refine ⟨vi ?_, rfl⟩
              try simp only [str_eq0] at *
              simp only [checkT, okWord]
              try simp_all
              try omega
            · have hc5' := hc5
              (try simp only [decide_eq_true_eq, decide_eq_false_iff_not, beq_iff_eq, bne_iff_ne, Bool.not_eq_true', Bool.not_eq_false', Bool.not_eq_true, Bool.not_eq_false, beq_eq_false_iff_ne, ne_eq, bne_eq_false_iff_eq, Bool.and_eq_true, Bool.or_eq_true, Bool.not_not, Bool.and_eq_false_iff, Bool.or_eq_false_iff, Int.not_lt, Int.not_le] at hc5')
              refine CD.skip ?_
              refine CD.seq ?_
              refine CD.region ?_
              refine OD.still (wants_plain rfl) rfl (still_as rfl opd_const) ?_
              refine OD.wk (Wk.as_ (n := 53) (l' := [(2, _)]) (S' := [⟨b1, 76, 3, [_, _, _]⟩]) rfl rfl ⟨lk, trivial⟩) ?_
              refine OD.nil ?_
              refine CD.ret ?_
              refine ⟨.inr rfl, _, [], List.nil_sublist _, ret_one Tryd.results34 (res_tmp (Nat.le_of_ble_eq_true rfl) lk), ?_⟩
              refine ⟨vi ?_, rfl⟩
              try simp only [str_eq0] at *
              simp only [checkT, okWord]
              try simp_all
              try omega
        · have hg23' := hg23; (try simp only [decide_eq_true_eq, decide_eq_false_iff_not, beq_iff_eq, bne_iff_ne, Bool.not_eq_true', Bool.not_eq_false', Bool.not_eq_true, Bool.not_eq_false, beq_eq_false_iff_ne, ne_eq, bne_eq_false_iff_eq, Bool.and_eq_true, Bool.or_eq_true, Bool.not_not, Bool.and_eq_false_iff, Bool.or_eq_false_iff, Int.not_lt, Int.not_le] at hg23')
          refine AD.takeSkip (i := 13) rfl (by kernel_rfl) (by kernel_rfl) (by kernel_rfl) (by repeat (first | exact NP.body | apply NP.then | apply NP.cut | apply NP.inBlock | apply NP.round)) (wants_F rfl rfl rfl lk (by first | rfl | assumption)) rfl ?_
          refine AD.takeSkip (i := 16) rfl (by kernel_rfl) (by kernel_rfl) (by kernel_rfl) (by repeat (first | exact NP.body | apply NP.then | apply NP.cut | apply NP.inBlock | apply NP.round)) (wants_F rfl rfl rfl lk (by first | rfl | assumption)) rfl ?_
          refine AD.two (i := 14) (j := 17) (by kernel_rfl) ?_ ?_
          · skip
            refine AStep.skip rfl (wants_F rfl rfl rfl lk (by first | rfl | assumption)) rfl ?_
            refine AD.two (i := 15) (j := 17) (by kernel_rfl) ?_ ?_
            · skip
              refine AStep.skip rfl (wants_F rfl rfl rfl lk (by first | rfl | assumption)) rfl ?_
              refine AD.one (i := 17) (by kernel_rfl) ?_
              refine AStep.skip rfl (wants_F rfl rfl rfl lk (by first | rfl | assumption)) rfl ?_
              refine AD.takeSkip (i := 18) rfl (by kernel_rfl) (by kernel_rfl) (by kernel_rfl) (by repeat (first | exact NP.body | apply NP.then | apply NP.cut | apply NP.inBlock | apply NP.round)) (wants_F rfl rfl rfl lk (by first | rfl | assumption)) rfl ?_
              refine AD.takeSkip (i := 19) rfl (by kernel_rfl) (by kernel_rfl) (by kernel_rfl) (by repeat (first | exact NP.body | apply NP.then | apply NP.cut | apply NP.inBlock | apply NP.round)) (wants_F rfl rfl rfl lk (by first | rfl | assumption)) rfl ?_
              refine AD.take (i := 20) rfl (by kernel_rfl) (by kernel_rfl) (by kernel_rfl) (by repeat (first | exact NP.body | apply NP.then | apply NP.cut | apply NP.inBlock | apply NP.round)) (wants_plain rfl) rfl (still_pickF rfl ot (by first | rfl | assumption) opd_const) (by exact trivial) (by intro h; cases h) ?_
              refine AD.take (i := 21) rfl (by kernel_rfl) (by kernel_rfl) (by kernel_rfl) (by repeat (first | exact NP.body | apply NP.then | apply NP.cut | apply NP.inBlock | apply NP.round)) (wants_plain rfl) rfl (still_as rfl ot) (by exact trivial) (by intro h; cases h) ?_
              refine AD.wk (y := ⟨53, [(3, _)], [⟨b1, 76, 3, [_, _, _]⟩]⟩) (Wk.as_ rfl rfl ⟨lk, trivial⟩) rfl ?_
              refine AD.done (by kernel_rfl) ?_
              refine CD.seq ?_
              refine CD.seq ?_
              refine CD.region ?_
              refine OD.still (wants_plain rfl) rfl (still_mv rfl ot) ?_
              refine OD.still (wants_plain rfl) rfl (still_un rfl ot un_not) ?_
              refine OD.wk (Wk.as_ (n := 53) (l' := [(52, _)]) (S' := [⟨b1, 76, 3, [_, _, _]⟩]) rfl rfl ⟨lk, trivial⟩) ?_
              refine OD.nil ?_
              refine CD.condT ot (by first | rfl | assumption) ?_
              refine CD.seq ?_
              refine CD.region ?_
              refine OD.still (wants_plain rfl) rfl (still_as rfl opd_const) ?_
              refine OD.wk (Wk.as_ (n := 53) (l' := [(2, _)]) (S' := [⟨b1, 76, 3, [_, _, _]⟩]) rfl rfl ⟨lk, trivial⟩) ?_
              refine OD.nil ?_
              refine CD.ret ?_
              refine ⟨.inr rfl, _, [], List.nil_sublist _, ret_one Tryd.results34 (res_tmp (Nat.le_of_ble_eq_true rfl) lk), ?_⟩
              refine ⟨vi ?_, rfl⟩
              try simp only [str_eq0] at *
              simp only [checkT, okWord]
              try simp_all
              try omega
            · skip
              refine AStep.skip rfl (wants_F rfl rfl rfl lk (by first | rfl | assumption)) rfl ?_
              refine AD.takeSkip (i := 18) rfl (by kernel_rfl) (by kernel_rfl) (by kernel_rfl) (by repeat (first | exact NP.body | apply NP.then | apply NP.cut | apply NP.inBlock | apply NP.round)) (wants_F rfl rfl rfl lk (by first | rfl | assumption)) rfl ?_
              refine AD.one (i := 15) (by kernel_rfl) ?_
              refine AStep.skip rfl (wants_F rfl rfl rfl lk (by first | rfl | assumption)) rfl ?_
              refine AD.takeSkip (i := 19) rfl (by kernel_rfl) (by kernel_rfl) (by kernel_rfl) (by repeat (first | exact NP.body | apply NP.then | apply NP.cut | apply NP.inBlock | apply NP.round)) (wants_F rfl rfl rfl lk (by first | rfl | assumption)) rfl ?_
              refine AD.take (i := 20) rfl (by kernel_rfl) (by kernel_rfl) (by kernel_rfl) (by repeat (first | exact NP.body | apply NP.then | apply NP.cut | apply NP.inBlock | apply NP.round)) (wants_plain rfl) rfl (still_pickF rfl ot (by first | rfl | assumption) opd_const) (by exact trivial) (by intro h; cases h) ?_
              refine AD.take (i := 21) rfl (by kernel_rfl) (by kernel_rfl) (by kernel_rfl) (by repeat (first | exact NP.body | apply NP.then | apply NP.cut | apply NP.inBlock | apply NP.round)) (wants_plain rfl) rfl (still_as rfl ot) (by exact trivial) (by intro h; cases h) ?_
              refine AD.wk (y := ⟨53, [(3, _)], [⟨b1, 76, 3, [_, _, _]⟩]⟩) (Wk.as_ rfl rfl ⟨lk, trivial⟩) rfl ?_
              refine AD.done (by kernel_rfl) ?_
              refine CD.seq ?_
              refine CD.seq ?_
              refine CD.region ?_
              refine OD.still (wants_plain rfl) rfl (still_mv rfl ot) ?_
              refine OD.still (wants_plain rfl) rfl (still_un rfl ot un_not) ?_
              refine OD.wk (Wk.as_ (n := 53) (l' := [(52, _)]) (S' := [⟨b1, 76, 3, [_, _, _]⟩]) rfl rfl ⟨lk, trivial⟩) ?_
              refine OD.nil ?_
              refine CD.condT ot (by first | rfl | assumption) ?_
              refine CD.seq ?_
              refine CD.region ?_
              refine OD.still (wants_plain rfl) rfl (still_as rfl opd_const) ?_
              refine OD.wk (Wk.as_ (n := 53) (l' := [(2, _)]) (S' := [⟨b1, 76, 3, [_, _, _]⟩]) rfl rfl ⟨lk, trivial⟩) ?_
              refine OD.nil ?_
              refine CD.ret ?_
              refine ⟨.inr rfl, _, [], List.nil_sublist _, ret_one Tryd.results34 (res_tmp (Nat.le_of_ble_eq_true rfl) lk), ?_⟩
              refine ⟨vi ?_, rfl⟩
              try simp only [str_eq0] at *
              simp only [checkT, okWord]
              try simp_all
              try omega
          · skip
            refine AStep.skip rfl (wants_F rfl rfl rfl lk (by first | rfl | assumption)) rfl ?_
            refine AD.takeSkip (i := 18) rfl (by kernel_rfl) (by kernel_rfl) (by kernel_rfl) (by repeat (first | exact NP.body | apply NP.then | apply NP.cut | apply NP.inBlock | apply NP.round)) (wants_F rfl rfl rfl lk (by first | rfl | assumption)) rfl ?_
            refine AD.one (i := 14) (by kernel_rfl) ?_
            refine AStep.skip rfl (wants_F rfl rfl rfl lk (by first | rfl | assumption)) rfl ?_
            refine AD.one (i := 15) (by kernel_rfl) ?_
            refine AStep.skip rfl (wants_F rfl rfl rfl lk (by first | rfl | assumption)) rfl ?_
            refine AD.takeSkip (i := 19) rfl (by kernel_rfl) (by kernel_rfl) (by kernel_rfl) (by repeat (first | exact NP.body | apply NP.then | apply NP.cut | apply NP.inBlock | apply NP.round)) (wants_F rfl rfl rfl lk (by first | rfl | assumption)) rfl ?_
            refine AD.take (i := 20) rfl (by kernel_rfl) (by kernel_rfl) (by kernel_rfl) (by repeat (first | exact NP.body | apply NP.then | apply NP.cut | apply NP.inBlock | apply NP.round)) (wants_plain rfl) rfl (still_pickF rfl ot (by first | rfl | assumption) opd_const) (by exact trivial) (by intro h; cases h) ?_
            refine AD.take (i := 21) rfl (by kernel_rfl) (by kernel_rfl) (by kernel_rfl) (by repeat (first | exact NP.body | apply NP.then | apply NP.cut | apply NP.inBlock | apply NP.round)) (wants_plain rfl) rfl (still_as rfl ot) (by exact trivial) (by intro h; cases h) ?_
            refine AD.wk (y := ⟨53, [(3, _)], [⟨b1, 76, 3, [_, _, _]⟩]⟩) (Wk.as_ rfl rfl ⟨lk, trivial⟩) rfl ?_
            refine AD.done (by kernel_rfl) ?_
            refine CD.seq ?_
            refine CD.seq ?_
            refine CD.region ?_
            refine OD.still (wants_plain rfl) rfl (still_mv rfl ot) ?_
            refine OD.still (wants_plain rfl) rfl (still_un rfl ot un_not) ?_
            refine OD.wk (Wk.as_ (n := 53) (l' := [(52, _)]) (S' := [⟨b1, 76, 3, [_, _, _]⟩]) rfl rfl ⟨lk, trivial⟩) ?_
            refine OD.nil ?_
            refine CD.condT ot (by first | rfl | assumption) ?_
            refine CD.seq ?_
            refine CD.region ?_
            refine OD.still (wants_plain rfl) rfl (still_as rfl opd_const) ?_
            refine OD.wk (Wk.as_ (n := 53) (l' := [(2, _)]) (S' := [⟨b1, 76, 3, [_, _, _]⟩]) rfl rfl ⟨lk, trivial⟩) ?_
            refine OD.nil ?_
            refine CD.ret ?_
            refine ⟨.inr rfl, _, [], List.nil_sublist _, ret_one Tryd.results34 (res_tmp (Nat.le_of_ble_eq_true rfl) lk), ?_⟩
            refine ⟨vi ?_, rfl⟩
            try simp only [str_eq0] at *
            simp only [checkT, okWord]
            try simp_all
            try omega
      · have hg17' := hg17; (try simp only [decide_eq_true_eq, decide_eq_false_iff_not, beq_iff_eq, bne_iff_ne, Bool.not_eq_true', Bool.not_eq_false', Bool.not_eq_true, Bool.not_eq_false, beq_eq_false_iff_ne, ne_eq, bne_eq_false_iff_eq, Bool.and_eq_true, Bool.or_eq_true, Bool.not_not, Bool.and_eq_false_iff, Bool.or_eq_false_iff, Int.not_lt, Int.not_le] at hg17')
        refine AD0.takeSkip (i := 7) rfl (by kernel_rfl) (by kernel_rfl) (by kernel_rfl) (by repeat (first | exact NP.body | apply NP.then | apply NP.cut | apply NP.inBlock | apply NP.round)) (wants_F rfl rfl rfl lk (by first | rfl | assumption)) rfl ?_
        refine AD0.takeSkip (i := 8) rfl (by kernel_rfl) (by kernel_rfl) (by kernel_rfl) (by repeat (first | exact NP.body | apply NP.then | apply NP.cut | apply NP.inBlock | apply NP.round)) (wants_F rfl rfl rfl lk (by first | rfl | assumption)) rfl ?_
        refine AD0.takeSkip (i := 9) rfl (by kernel_rfl) (by kernel_rfl) (by kernel_rfl) (by repeat (first | exact NP.body | apply NP.then | apply NP.cut | apply NP.inBlock | apply NP.round)) (wants_F rfl rfl rfl lk (by first | rfl | assumption)) rfl ?_
        refine AD0.later rfl ?_
        refine AD.one (i := 10) (by kernel_rfl) ?_
        refine AStep.skip rfl (wants_F rfl rfl rfl lk (by first | rfl | assumption)) rfl ?_
        refine AD.take (i := 11) rfl (by kernel_rfl) (by kernel_rfl) (by kernel_rfl) (by repeat (first | exact NP.body | apply NP.then | apply NP.cut | apply NP.inBlock | apply NP.round)) (wants_plain rfl) rfl (still_pickF rfl ot (by first | rfl | assumption) opd_const) (by exact trivial) (by intro h; cases h) ?_
        refine AD.take (i := 12) rfl (by kernel_rfl) (by kernel_rfl) (by kernel_rfl) (by repeat (first | exact NP.body | apply NP.then | apply NP.cut | apply NP.inBlock | apply NP.round)) (wants_plain rfl) rfl (still_mv rfl ot) (by exact trivial) (by intro h; cases h) ?_
        refine AD.takeSkip (i := 13) rfl (by kernel_rfl) (by kernel_rfl) (by kernel_rfl) (by repeat (first | exact NP.body | apply NP.then | apply NP.cut | apply NP.inBlock | apply NP.round)) (wants_F rfl rfl rfl lk (by first | rfl | assumption)) rfl ?_
        refine AD.takeSkip (i := 16) rfl (by kernel_rfl) (by kernel_rfl) (by kernel_rfl) (by repeat (first | exact NP.body | apply NP.then | apply NP.cut | apply NP.inBlock | apply NP.round)) (wants_F rfl rfl rfl lk (by first | rfl | assumption)) rfl ?_
        refine AD.two (i := 14) (j := 17) (by kernel_rfl) ?_ ?_
        · skip
          refine AStep.skip rfl (wants_F rfl rfl rfl lk (by first | rfl | assumption)) rfl ?_
          refine AD.two (i := 15) (j := 17) (by kernel_rfl) ?_ ?_
          · skip
            refine AStep.skip rfl (wants_F rfl rfl rfl lk (by first | rfl | assumption)) rfl ?_
            refine AD.one (i := 17) (by kernel_rfl) ?_
            refine AStep.skip rfl (wants_F rfl rfl rfl lk (by first | rfl | assumption)) rfl ?_
            refine AD.takeSkip (i := 18) rfl (by kernel_rfl) (by kernel_rfl) (by kernel_rfl) (by repeat (first | exact NP.body | apply NP.then | apply NP.cut | apply NP.inBlock | apply NP.round)) (wants_F rfl rfl rfl lk (by first | rfl | assumption)) rfl ?_
            refine AD.takeSkip (i := 19) rfl (by kernel_rfl) (by kernel_rfl) (by kernel_rfl) (by repeat (first | exact NP.body | apply NP.then | apply NP.cut | apply NP.inBlock | apply NP.round)) (wants_F rfl rfl rfl lk (by first | rfl | assumption)) rfl ?_
            refine AD.take (i := 20) rfl (by kernel_rfl) (by kernel_rfl) (by kernel_rfl) (by repeat (first | exact NP.body | apply NP.then | apply NP.cut | apply NP.inBlock | apply NP.round)) (wants_plain rfl) rfl (still_pickF rfl ot (by first | rfl | assumption) opd_const) (by exact trivial) (by intro h; cases h) ?_
            refine AD.take (i := 21) rfl (by kernel_rfl) (by kernel_rfl) (by kernel_rfl) (by repeat (first | exact NP.body | apply NP.then | apply NP.cut | apply NP.inBlock | apply NP.round)) (wants_plain rfl) rfl (still_as rfl ot) (by exact trivial) (by intro h; cases h) ?_
            refine AD.wk (y := ⟨53, [(3, _)], [⟨b1, 76, 3, [_, _, _]⟩]⟩) (Wk.as_ rfl rfl ⟨lk, trivial⟩) rfl ?_
            refine AD.done (by kernel_rfl) ?_
            refine CD.seq ?_
            refine CD.seq ?_
            refine CD.region ?_
            refine OD.still (wants_plain rfl) rfl (still_mv rfl ot) ?_
            refine OD.still (wants_plain rfl) rfl (still_un rfl ot un_not) ?_
            refine OD.wk (Wk.as_ (n := 53) (l' := [(52, _)]) (S' := [⟨b1, 76, 3, [_, _, _]⟩]) rfl rfl ⟨lk, trivial⟩) ?_
            refine OD.nil ?_
            refine CD.condT ot (by first | rfl | assumption) ?_
            refine CD.seq ?_
            refine CD.region ?_
            refine OD.still (wants_plain rfl) rfl (still_as rfl opd_const) ?_
            refine OD.wk (Wk.as_ (n := 53) (l' := [(2, _)]) (S' := [⟨b1, 76, 3, [_, _, _]⟩]) rfl rfl ⟨lk, trivial⟩) ?_
            refine OD.nil ?_
            refine CD.ret ?_
            refine ⟨.inr rfl, _, [], List.nil_sublist _, ret_one Tryd.results34 (res_tmp (Nat.le_of_ble_eq_true rfl) lk), ?_⟩
            refine ⟨vi ?_, rfl⟩
            try simp only [str_eq0] at *
            simp only [checkT, okWord]
            try simp_all
            try omega
          · skip
            refine AStep.skip rfl (wants_F rfl rfl rfl lk (by first | rfl | assumption)) rfl ?_
            refine AD.takeSkip (i := 18) rfl (by kernel_rfl) (by kernel_rfl) (by kernel_rfl) (by repeat (first | exact NP.body | apply NP.then | apply NP.cut | apply NP.inBlock | apply NP.round)) (wants_F rfl rfl rfl lk (by first | rfl | assumption)) rfl ?_
            refine AD.one (i := 15) (by kernel_rfl) ?_
            refine AStep.skip rfl (wants_F rfl rfl rfl lk (by first | rfl | assumption)) rfl ?_
            refine AD.takeSkip (i := 19) rfl (by kernel_rfl) (by kernel_rfl) (by kernel_rfl) (by repeat (first | exact NP.body | apply NP.then | apply NP.cut | apply NP.inBlock | apply NP.round)) (wants_F rfl rfl rfl lk (by first | rfl | assumption)) rfl ?_
            refine AD.take (i := 20) rfl (by kernel_rfl) (by kernel_rfl) (by kernel_rfl) (by repeat (first | exact NP.body | apply NP.then | apply NP.cut | apply NP.inBlock | apply NP.round)) (wants_plain rfl) rfl (still_pickF rfl ot (by first | rfl | assumption) opd_const) (by exact trivial) (by intro h; cases h) ?_
            refine AD.take (i := 21) rfl (by kernel_rfl) (by kernel_rfl) (by kernel_rfl) (by repeat (first | exact NP.body | apply NP.then | apply NP.cut | apply NP.inBlock | apply NP.round)) (wants_plain rfl) rfl (still_as rfl ot) (by exact trivial) (by intro h; cases h) ?_
            refine AD.wk (y := ⟨53, [(3, _)], [⟨b1, 76, 3, [_, _, _]⟩]⟩) (Wk.as_ rfl rfl ⟨lk, trivial⟩) rfl ?_
            refine AD.done (by kernel_rfl) ?_
            refine CD.seq ?_
            refine CD.seq ?_
            refine CD.region ?_
            refine OD.still (wants_plain rfl) rfl (still_mv rfl ot) ?_
            refine OD.still (wants_plain rfl) rfl (still_un rfl ot un_not) ?_
            refine OD.wk (Wk.as_ (n := 53) (l' := [(52, _)]) (S' := [⟨b1, 76, 3, [_, _, _]⟩]) rfl rfl ⟨lk, trivial⟩) ?_
            refine OD.nil ?_
            refine CD.condT ot (by first | rfl | assumption) ?_
            refine CD.seq ?_
            refine CD.region ?_
            refine OD.still (wants_plain rfl) rfl (still_as rfl opd_const) ?_
            refine OD.wk (Wk.as_ (n := 53) (l' := [(2, _)]) (S' := [⟨b1, 76, 3, [_, _, _]⟩]) rfl rfl ⟨lk, trivial⟩) ?_
            refine OD.nil ?_
            refine CD.ret ?_
            refine ⟨.inr rfl, _, [], List.nil_sublist _, ret_one Tryd.results34 (res_tmp (Nat.le_of_ble_eq_true rfl) lk), ?_⟩
            refine ⟨vi ?_, rfl⟩
            try simp only [str_eq0] at *
            simp only [checkT, okWord]
            try simp_all
            try omega
        · skip
          refine AStep.skip rfl (wants_F rfl rfl rfl lk (by first | rfl | assumption)) rfl ?_
          refine AD.takeSkip (i := 18) rfl (by kernel_rfl) (by kernel_rfl) (by kernel_rfl) (by repeat (first | exact NP.body | apply NP.then | apply NP.cut | apply NP.inBlock | apply NP.round)) (wants_F rfl rfl rfl lk (by first | rfl | assumption)) rfl ?_
          refine AD.one (i := 14) (by kernel_rfl) ?_
          refine AStep.skip rfl (wants_F rfl rfl rfl lk (by first | rfl | assumption)) rfl ?_
          refine AD.one (i := 15) (by kernel_rfl) ?_
          refine AStep.skip rfl (wants_F rfl rfl rfl lk (by first | rfl | assumption)) rfl ?_
          refine AD.takeSkip (i := 19) rfl (by kernel_rfl) (by kernel_rfl) (by kernel_rfl) (by repeat (first | exact NP.body | apply NP.then | apply NP.cut | apply NP.inBlock | apply NP.round)) (wants_F rfl rfl rfl lk (by first | rfl | assumption)) rfl ?_
          refine AD.take (i := 20) rfl (by kernel_rfl) (by kernel_rfl) (by kernel_rfl) (by repeat (first | exact NP.body | apply NP.then | apply NP.cut | apply NP.inBlock | apply NP.round)) (wants_plain rfl) rfl (still_pickF rfl ot (by first | rfl | assumption) opd_const) (by exact trivial) (by intro h; cases h) ?_
          refine AD.take (i := 21) rfl (by kernel_rfl) (by kernel_rfl) (by kernel_rfl) (by repeat (first | exact NP.body | apply NP.then | apply NP.cut | apply NP.inBlock | apply NP.round)) (wants_plain rfl) rfl (still_as rfl ot) (by exact trivial) (by intro h; cases h) ?_
          refine AD.wk (y := ⟨53, [(3, _)], [⟨b1, 76, 3, [_, _, _]⟩]⟩) (Wk.as_ rfl rfl ⟨lk, trivial⟩) rfl ?_
          refine AD.done (by kernel_rfl) ?_
          refine CD.seq ?_
          refine CD.seq ?_
          refine CD.region ?_
          refine OD.still (wants_plain rfl) rfl (still_mv rfl ot) ?_
          refine OD.still (wants_plain rfl) rfl (still_un rfl ot un_not) ?_
          refine OD.wk (Wk.as_ (n := 53) (l' := [(52, _)]) (S' := [⟨b1, 76, 3, [_, _, _]⟩]) rfl rfl ⟨lk, trivial⟩) ?_
          refine OD.nil ?_
          refine CD.condT ot (by first | rfl | assumption) ?_
          refine CD.seq ?_
          refine CD.region ?_
          refine OD.still (wants_plain rfl) rfl (still_as rfl opd_const) ?_
          refine OD.wk (Wk.as_ (n := 53) (l' := [(2, _)]) (S' := [⟨b1, 76, 3, [_, _, _]⟩]) rfl rfl ⟨lk, trivial⟩) ?_
          refine OD.nil ?_
          refine CD.ret ?_
          refine ⟨.inr rfl, _, [], List.nil_sublist _, ret_one Tryd.results34 (res_tmp (Nat.le_of_ble_eq_true rfl) lk), ?_⟩
          refine ⟨vi ?_, rfl⟩
          try simp only [str_eq0] at *
          simp only [checkT, okWord]
          try simp_all
          try omega
    · have hg12' := hg12; (try simp only [decide_eq_true_eq, decide_eq_false_iff_not, beq_iff_eq, bne_iff_ne, Bool.not_eq_true', Bool.not_eq_false', Bool.not_eq_true, Bool.not_eq_false, beq_eq_false_iff_ne, ne_eq, bne_eq_false_iff_eq, Bool.and_eq_true, Bool.or_eq_true, Bool.not_not, Bool.and_eq_false_iff, Bool.or_eq_false_iff, Int.not_lt, Int.not_le] at hg12')
      refine AD0.takeSkip (i := 2) rfl (by kernel_rfl) (by kernel_rfl) (by kernel_rfl) (by repeat (first | exact NP.body | apply NP.then | apply NP.cut | apply NP.inBlock | apply NP.round)) (wants_F rfl rfl rfl lk (by first | rfl | assumption)) rfl ?_
      refine AD0.takeSkip (i := 3) rfl (by kernel_rfl) (by kernel_rfl) (by kernel_rfl) (by repeat (first | exact NP.body | apply NP.then | apply NP.cut | apply NP.inBlock | apply NP.round)) (wants_F rfl rfl rfl lk (by first | rfl | assumption)) rfl ?_
      refine AD0.takeSkip (i := 4) rfl (by kernel_rfl) (by kernel_rfl) (by kernel_rfl) (by repeat (first | exact NP.body | apply NP.then | apply NP.cut | apply NP.inBlock | apply NP.round)) (wants_F rfl rfl rfl lk (by first | rfl | assumption)) rfl ?_
      refine AD0.take (i := 5) rfl (by kernel_rfl) (by kernel_rfl) (by kernel_rfl) (by repeat (first | exact NP.body | apply NP.then | apply NP.cut | apply NP.inBlock | apply NP.round)) (wants_plain rfl) rfl (still_pickF rfl ot (by first | rfl | assumption) opd_const) (by exact trivial) ?_
      refine AD0.take (i := 6) rfl (by kernel_rfl) (by kernel_rfl) (by kernel_rfl) (by repeat (first | exact NP.body | apply NP.then | apply NP.cut | apply NP.inBlock | apply NP.round)) (wants_plain rfl) rfl (still_mv rfl ot) (by exact trivial) ?_
      refine AD0.takeSkip (i := 7) rfl (by kernel_rfl) (by kernel_rfl) (by kernel_rfl) (by repeat (first | exact NP.body | apply NP.then | apply NP.cut | apply NP.inBlock | apply NP.round)) (wants_F rfl rfl rfl lk (by first | rfl | assumption)) rfl ?_
      refine AD0.takeSkip (i := 8) rfl (by kernel_rfl) (by kernel_rfl) (by kernel_rfl) (by repeat (first | exact NP.body | apply NP.then | apply NP.cut | apply NP.inBlock | apply NP.round)) (wants_F rfl rfl rfl lk (by first | rfl | assumption)) rfl ?_
      refine AD0.takeSkip (i := 9) rfl (by kernel_rfl) (by kernel_rfl) (by kernel_rfl) (by repeat (first | exact NP.body | apply NP.then | apply NP.cut | apply NP.inBlock | apply NP.round)) (wants_F rfl rfl rfl lk (by first | rfl | assumption)) rfl ?_
      refine AD0.later rfl ?_
      refine AD.one (i := 10) (by kernel_rfl) ?_
      refine AStep.skip rfl (wants_F rfl rfl rfl lk (by first | rfl | assumption)) rfl ?_
      refine AD.take (i := 11) rfl (by kernel_rfl) (by kernel_rfl) (by kernel_rfl) (by repeat (first | exact NP.body | apply NP.then | apply NP.cut | apply NP.inBlock | apply NP.round)) (wants_plain rfl) rfl (still_pickF rfl ot (by first | rfl | assumption) opd_const) (by exact trivial) (by intro h; cases h) ?_
      refine AD.take (i := 12) rfl (by kernel_rfl) (by kernel_rfl) (by kernel_rfl) (by repeat (first | exact NP.body | apply NP.then | apply NP.cut | apply NP.inBlock | apply NP.round)) (wants_plain rfl) rfl (still_mv rfl ot) (by exact trivial) (by intro h; cases h) ?_
      refine AD.takeSkip (i := 13) rfl (by kernel_rfl) (by kernel_rfl) (by kernel_rfl) (by repeat (first | exact NP.body | apply NP.then | apply NP.cut | apply NP.inBlock | apply NP.round)) (wants_F rfl rfl rfl lk (by first | rfl | assumption)) rfl ?_
      refine AD.takeSkip (i := 16) rfl (by kernel_rfl) (by kernel_rfl) (by kernel_rfl) (by repeat (first | exact NP.body | apply NP.then | apply NP.cut | apply NP.inBlock | apply NP.round)) (wants_F rfl rfl rfl lk (by first | rfl | assumption)) rfl ?_
      refine AD.two (i := 14) (j := 17) (by kernel_rfl) ?_ ?_
      · skip
        refine AStep.skip rfl (wants_F rfl rfl rfl lk (by first | rfl | assumption)) rfl ?_
        refine AD.two (i := 15) (j := 17) (by kernel_rfl) ?_ ?_
        · skip
          refine AStep.skip rfl (wants_F rfl rfl rfl lk (by first | rfl | assumption)) rfl ?_
          refine AD.one (i := 17) (by kernel_rfl) ?_
          refine AStep.skip rfl (wants_F rfl rfl rfl lk (by first | rfl | assumption)) rfl ?_
          refine AD.takeSkip (i := 18) rfl (by kernel_rfl) (by kernel_rfl) (by kernel_rfl) (by repeat (first | exact NP.body | apply NP.then | apply NP.cut | apply NP.inBlock | apply NP.round)) (wants_F rfl rfl rfl lk (by first | rfl | assumption)) rfl ?_
          refine AD.takeSkip (i := 19) rfl (by kernel_rfl) (by kernel_rfl) (by kernel_rfl) (by repeat (first | exact NP.body | apply NP.then | apply NP.cut | apply NP.inBlock | apply NP.round)) (wants_F rfl rfl rfl lk (by first | rfl | assumption)) rfl ?_
          refine AD.take (i := 20) rfl (by kernel_rfl) (by kernel_rfl) (by kernel_rfl) (by repeat (first | exact NP.body | apply NP.then | apply NP.cut | apply NP.inBlock | apply NP.round)) (wants_plain rfl) rfl (still_pickF rfl ot (by first | rfl | assumption) opd_const) (by exact trivial) (by intro h; cases h) ?_
          refine AD.take (i := 21) rfl (by kernel_rfl) (by kernel_rfl) (by kernel_rfl) (by repeat (first | exact NP.body | apply NP.then | apply NP.cut | apply NP.inBlock | apply NP.round)) (wants_plain rfl) rfl (still_as rfl ot) (by exact trivial) (by intro h; cases h) ?_
          refine AD.wk (y := ⟨53, [(3, _)], [⟨b1, 76, 3, [_, _, _]⟩]⟩) (Wk.as_ rfl rfl ⟨lk, trivial⟩) rfl ?_
          refine AD.done (by kernel_rfl) ?_
          refine CD.seq ?_
          refine CD.seq ?_
          refine CD.region ?_
          refine OD.still (wants_plain rfl) rfl (still_mv rfl ot) ?_
          refine OD.still (wants_plain rfl) rfl (still_un rfl ot un_not) ?_
          refine OD.wk (Wk.as_ (n := 53) (l' := [(52, _)]) (S' := [⟨b1, 76, 3, [_, _, _]⟩]) rfl rfl ⟨lk, trivial⟩) ?_
          refine OD.nil ?_
          refine CD.condT ot (by first | rfl | assumption) ?_
          refine CD.seq ?_
          refine CD.region ?_
          refine OD.still (wants_plain rfl) rfl (still_as rfl opd_const) ?_
          refine OD.wk (Wk.as_ (n := 53) (l' := [(2, _)]) (S' := [⟨b1, 76, 3, [_, _, _]⟩]) rfl rfl ⟨lk, trivial⟩) ?_
          refine OD.nil ?_
          refine CD.ret ?_
          refine ⟨.inr rfl, _, [], List.nil_sublist _, ret_one Tryd.results34 (res_tmp (Nat.le_of_ble_eq_true rfl) lk), ?_⟩
          refine ⟨vi ?_, rfl⟩
          try simp only [str_eq0] at *
          simp only [checkT, okWord]
          try simp_all
          try omega
        · skip
          refine AStep.skip rfl (wants_F rfl rfl rfl lk (by first | rfl | assumption)) rfl ?_
          refine AD.takeSkip (i := 18) rfl (by kernel_rfl) (by kernel_rfl) (by kernel_rfl) (by repeat (first | exact NP.body | apply NP.then | apply NP.cut | apply NP.inBlock | apply NP.round)) (wants_F rfl rfl rfl lk (by first | rfl | assumption)) rfl ?_
          refine AD.one (i := 15) (by kernel_rfl) ?_
          refine AStep.skip rfl (wants_F rfl rfl rfl lk (by first | rfl | assumption)) rfl ?_
          refine AD.takeSkip (i := 19) rfl (by kernel_rfl) (by kernel_rfl) (by kernel_rfl) (by repeat (first | exact NP.body | apply NP.then | apply NP.cut | apply NP.inBlock | apply NP.round)) (wants_F rfl rfl rfl lk (by first | rfl | assumption)) rfl ?_
          refine AD.take (i := 20) rfl (by kernel_rfl) (by kernel_rfl) (by kernel_rfl) (by repeat (first | exact NP.body | apply NP.then | apply NP.cut | apply NP.inBlock | apply NP.round)) (wants_plain rfl) rfl (still_pickF rfl ot (by first | rfl | assumption) opd_const) (by exact trivial) (by intro h; cases h) ?_
          refine AD.take (i := 21) rfl (by kernel_rfl) (by kernel_rfl) (by kernel_rfl) (by repeat (first | exact NP.body | apply NP.then | apply NP.cut | apply NP.inBlock | apply NP.round)) (wants_plain rfl) rfl (still_as rfl ot) (by exact trivial) (by intro h; cases h) ?_
          refine AD.wk (y := ⟨53, [(3, _)], [⟨b1, 76, 3, [_, _, _]⟩]⟩) (Wk.as_ rfl rfl ⟨lk, trivial⟩) rfl ?_
          refine AD.done (by kernel_rfl) ?_
          refine CD.seq ?_
          refine CD.seq ?_
          refine CD.region ?_
          refine OD.still (wants_plain rfl) rfl (still_mv rfl ot) ?_
          refine OD.still (wants_plain rfl) rfl (still_un rfl ot un_not) ?_
          refine OD.wk (Wk.as_ (n := 53) (l' := [(52, _)]) (S' := [⟨b1, 76, 3, [_, _, _]⟩]) rfl rfl ⟨lk, trivial⟩) ?_
          refine OD.nil ?_
          refine CD.condT ot (by first | rfl | assumption) ?_
          refine CD.seq ?_
          refine CD.region ?_
          refine OD.still (wants_plain rfl) rfl (still_as rfl opd_const) ?_
          refine OD.wk (Wk.as_ (n := 53) (l' := [(2, _)]) (S' := [⟨b1, 76, 3, [_, _, _]⟩]) rfl rfl ⟨lk, trivial⟩) ?_
          refine OD.nil ?_
          refine CD.ret ?_
          refine ⟨.inr rfl, _, [], List.nil_sublist _, ret_one Tryd.results34 (res_tmp (Nat.le_of_ble_eq_true rfl) lk), ?_⟩
          refine ⟨vi ?_, rfl⟩
          try simp only [str_eq0] at *
          simp only [checkT, okWord]
          try simp_all
          try omega
      · skip
        refine AStep.skip rfl (wants_F rfl rfl rfl lk (by first | rfl | assumption)) rfl ?_
        refine AD.takeSkip (i := 18) rfl (by kernel_rfl) (by kernel_rfl) (by kernel_rfl) (by repeat (first | exact NP.body | apply NP.then | apply NP.cut | apply NP.inBlock | apply NP.round)) (wants_F rfl rfl rfl lk (by first | rfl | assumption)) rfl ?_
        refine AD.one (i := 14) (by kernel_rfl) ?_
        refine AStep.skip rfl (wants_F rfl rfl rfl lk (by first | rfl | assumption)) rfl ?_
        refine AD.one (i := 15) (by kernel_rfl) ?_
        refine AStep.skip rfl (wants_F rfl rfl rfl lk (by first | rfl | assumption)) rfl ?_
        refine AD.takeSkip (i := 19) rfl (by kernel_rfl) (by kernel_rfl) (by kernel_rfl) (by repeat (first | exact NP.body | apply NP.then | apply NP.cut | apply NP.inBlock | apply NP.round)) (wants_F rfl rfl rfl lk (by first | rfl | assumption)) rfl ?_
        refine AD.take (i := 20) rfl (by kernel_rfl) (by kernel_rfl) (by kernel_rfl) (by repeat (first | exact NP.body | apply NP.then | apply NP.cut | apply NP.inBlock | apply NP.round)) (wants_plain rfl) rfl (still_pickF rfl ot (by first | rfl | assumption) opd_const) (by exact trivial) (by intro h; cases h) ?_
        refine AD.take (i := 21) rfl (by kernel_rfl) (by kernel_rfl) (by kernel_rfl) (by repeat (first | exact NP.body | apply NP.then | apply NP.cut | apply NP.inBlock | apply NP.round)) (wants_plain rfl) rfl (still_as rfl ot) (by exact trivial) (by intro h; cases h) ?_
        refine AD.wk (y := ⟨53, [(3, _)], [⟨b1, 76, 3, [_, _, _]⟩]⟩) (Wk.as_ rfl rfl ⟨lk, trivial⟩) rfl ?_
        refine AD.done (by kernel_rfl) ?_
        refine CD.seq ?_
        refine CD.seq ?_
        refine CD.region ?_
        refine OD.still (wants_plain rfl) rfl (still_mv rfl ot) ?_
        refine OD.still (wants_plain rfl) rfl (still_un rfl ot un_not) ?_
        refine OD.wk (Wk.as_ (n := 53) (l' := [(52, _)]) (S' := [⟨b1, 76, 3, [_, _, _]⟩]) rfl rfl ⟨lk, trivial⟩) ?_
        refine OD.nil ?_
        refine CD.condT ot (by first | rfl | assumption) ?_
        refine CD.seq ?_
        refine CD.region ?_
        refine OD.still (wants_plain rfl) rfl (still_as rfl opd_const) ?_
        refine OD.wk (Wk.as_ (n := 53) (l' := [(2, _)]) (S' := [⟨b1, 76, 3, [_, _, _]⟩]) rfl rfl ⟨lk, trivial⟩) ?_
        refine OD.nil ?_
        refine CD.ret ?_
        refine ⟨.inr rfl, _, [], List.nil_sublist _, ret_one Tryd.results34 (res_tmp (Nat.le_of_ble_eq_true rfl) lk), ?_⟩
        refine ⟨vi ?_, rfl⟩
        try simp only [str_eq0] at *
        simp only [checkT, okWord]
        try simp_all
        try omega
  · have hc0' := hc0
    (try simp only [decide_eq_true_eq, decide_eq_false_iff_not, beq_iff_eq, bne_iff_ne, Bool.not_eq_true', Bool.not_eq_false', Bool.not_eq_true, Bool.not_eq_false, beq_eq_false_iff_ne, ne_eq, bne_eq_false_iff_eq, Bool.and_eq_true, Bool.or_eq_true, Bool.not_not, Bool.and_eq_false_iff, Bool.or_eq_false_iff, Int.not_lt, Int.not_le] at hc0')
    refine CD.seq ?_
    refine CD.region ?_
    refine OD.still (wants_plain rfl) rfl (still_bin rfl ot opd_const bin_eql) ?_
    refine OD.still (wants_plain rfl) rfl (still_as rfl ot) ?_
    refine OD.wk (Wk.as_ (n := 53) (l' := [(1, _), (3, _), (8, _), (32, _)]) (S' := [⟨b1, 76, 3, [_, _, _]⟩]) rfl rfl ⟨lk, lk, lk, lk, trivial⟩) ?_
    refine OD.nil ?_
    refine CD.cond ot (fun hc1 => ?_) (fun hc1 => ?_)
    · have hc1' := hc1
      (try simp only [decide_eq_true_eq, decide_eq_false_iff_not, beq_iff_eq, bne_iff_ne, Bool.not_eq_true', Bool.not_eq_false', Bool.not_eq_true, Bool.not_eq_false, beq_eq_false_iff_ne, ne_eq, bne_eq_false_iff_eq, Bool.and_eq_true, Bool.or_eq_true, Bool.not_not, Bool.and_eq_false_iff, Bool.or_eq_false_iff, Int.not_lt, Int.not_le] at hc1')
      refine CD.seq ?_
      refine CD.seq ?_
      refine CD.region ?_
      refine OD.still (wants_plain rfl) rfl (still_r1 (mk := fun y => Op.fieldAddr 76 y 2) rfl ot (by first | exact fa_ptr (off := 2) Tryd.runUnderlying76 rfl Tryd.sizeOf3 rfl | exact fa_iptr (off := 2) Tryd.runUnderlying76 rfl Tryd.sizeOf3 rfl)) ?_
      refine OD.still (wants_plain rfl) rfl (still_r1 (mk := Op.load 3) rfl ot (by first | exact ld_blk (k := 0) rfl rfl Tryd.isAgg3 rfl | exact ld_i Tryd.isAgg3 rfl)) ?_
      refine OD.still (wants_plain rfl) rfl (still_bin rfl ot opd_const bin_lss) ?_
      refine OD.wk (Wk.as_ (n := 53) (l' := [(1, _), (36, _)]) (S' := [⟨b1, 76, 3, [_, _, _]⟩]) rfl rfl ⟨lk, lk, trivial⟩) ?_
      refine OD.nil ?_
      refine CD.cond ot (fun hc2 => ?_) (fun hc2 => ?_)
      · have hc2' := hc2
        (try simp only [decide_eq_true_eq, decide_eq_false_iff_not, beq_iff_eq, bne_iff_ne, Bool.not_eq_true', Bool.not_eq_false', Bool.not_eq_true, Bool.not_eq_false, beq_eq_false_iff_ne, ne_eq, bne_eq_false_iff_eq, Bool.and_eq_true, Bool.or_eq_true, Bool.not_not, Bool.and_eq_false_iff, Bool.or_eq_false_iff, Int.not_lt, Int.not_le] at hc2')
        refine CD.seq ?_
        refine CD.region ?_
        refine OD.still (wants_plain rfl) rfl (still_as rfl opd_const) ?_
        refine OD.wk (Wk.as_ (n := 53) (l' := [(2, _)]) (S' := [⟨b1, 76, 3, [_, _, _]⟩]) rfl rfl ⟨lk, trivial⟩) ?_
        refine OD.nil ?_
        refine CD.ret ?_
        refine ⟨.inr rfl, _, [], List.nil_sublist _, ret_one Tryd.results34 (res_tmp (Nat.le_of_ble_eq_true rfl) lk), ?_⟩
        refine ⟨vi ?_, rfl⟩
        try simp only [str_eq0] at *
        simp only [checkT, okWord]
        try simp_all
        try omega
      · have hc2' := hc2
        (try simp only [decide_eq_true_eq, decide_eq_false_iff_not, beq_iff_eq, bne_iff_ne, Bool.not_eq_true', Bool.not_eq_false', Bool.not_eq_true, Bool.not_eq_false, beq_eq_false_iff_ne, ne_eq, bne_eq_false_iff_eq, Bool.and_eq_true, Bool.or_eq_true, Bool.not_not, Bool.and_eq_false_iff, Bool.or_eq_false_iff, Int.not_lt, Int.not_le] at hc2')
        refine CD.skip ?_
        refine CD.region ?_
        refine OD.still (wants_plain rfl) rfl (still_r1 (mk := fun y => Op.fieldAddr 76 y 1) rfl ot (by first | exact fa_ptr (off := 1) Tryd.runUnderlying76 rfl Tryd.sizeOf9 rfl | exact fa_iptr (off := 1) Tryd.runUnderlying76 rfl Tryd.sizeOf9 rfl)) ?_
        refine OD.still (wants_plain rfl) rfl (still_r1 (mk := Op.load 9) rfl ot (by first | exact ld_blk (k := 0) rfl rfl Tryd.isAgg9 rfl | exact ld_i Tryd.isAgg9 rfl)) ?_
        refine OD.still (wants_plain rfl) rfl (still_bin rfl ot opd_const bin_seql) ?_
        refine OD.still (wants_plain rfl) rfl (still_as rfl ot) ?_
        refine OD.wk (Wk.as_ (n := 53) (l' := [(3, _)]) (S' := [⟨b1, 76, 3, [_, _, _]⟩]) rfl rfl ⟨lk, trivial⟩) ?_
        refine OD.nil ?_
        refine CD.seq ?_
        refine CD.seq ?_
        refine CD.region ?_
        refine OD.still (wants_plain rfl) rfl (still_mv rfl ot) ?_
        refine OD.still (wants_plain rfl) rfl (still_un rfl ot un_not) ?_
        refine OD.wk (Wk.as_ (n := 53) (l' := [(52, _)]) (S' := [⟨b1, 76, 3, [_, _, _]⟩]) rfl rfl ⟨lk, trivial⟩) ?_
        refine OD.nil ?_
        refine CD.cond ot (fun hc5 => ?_) (fun hc5 => ?_)
        · have hc5' := hc5
          (try simp only [decide_eq_true_eq, decide_eq_false_iff_not, beq_iff_eq, bne_iff_ne, Bool.not_eq_true', Bool.not_eq_false', Bool.not_eq_true, Bool.not_eq_false, beq_eq_false_iff_ne, ne_eq, bne_eq_false_iff_eq, Bool.and_eq_true, Bool.or_eq_true, Bool.not_not, Bool.and_eq_false_iff, Bool.or_eq_false_iff, Int.not_lt, Int.not_le] at hc5')
          refine CD.seq ?_
          refine CD.region ?_
          refine OD.still (wants_plain rfl) rfl (still_as rfl opd_const) ?_
          refine OD.wk (Wk.as_ (n := 53) (l' := [(2, _)]) (S' := [⟨b1, 76, 3, [_, _, _]⟩]) rfl rfl ⟨lk, trivial⟩) ?_
          refine OD.nil ?_
          refine CD.ret ?_
          refine ⟨.inr rfl, _, [], List.nil_sublist _, ret_one Tryd.results34 (res_tmp (Nat.le_of_ble_eq_true rfl) lk), ?_⟩
          refine ⟨vi ?_, rfl⟩
          try simp only [str_eq0] at *
          simp only [checkT, okWord]
          try simp_all
          try omega
        · have hc5' := hc5
          (try simp only [decide_eq_true_eq, decide_eq_false_iff_not, beq_iff_eq, bne_iff_ne, Bool.not_eq_true', Bool.not_eq_false', Bool.not_eq_true, Bool.not_eq_false, beq_eq_false_iff_ne, ne_eq, bne_eq_false_iff_eq, Bool.and_eq_true, Bool.or_eq_true, Bool.not_not, Bool.and_eq_false_iff, Bool.or_eq_false_iff, Int.not_lt, Int.not_le] at hc5')
          refine CD.skip ?_
          refine CD.seq ?_
          refine CD.region ?_
          refine OD.still (wants_plain rfl) rfl (still_as rfl opd_const) ?_
          refine OD.wk (Wk.as_ (n := 53) (l' := [(2, _)]) (S' := [⟨b1, 76, 3, [_, _, _]⟩]) rfl rfl ⟨lk, trivial⟩) ?_
          refine OD.nil ?_
          refine CD.ret ?_
          refine ⟨.inr rfl, _, [], List.nil_sublist _, ret_one Tryd.results34 (res_tmp (Nat.le_of_ble_eq_true rfl) lk), ?_⟩
          refine ⟨vi ?_, rfl⟩
          try simp only [str_eq0] at *
          simp only [checkT, okWord]
          try simp_all
          try omega
    · have hc1' := hc1
      (try simp only [decide_eq_true_eq, decide_eq_false_iff_not, beq_iff_eq, bne_iff_ne, Bool.not_eq_true', Bool.not_eq_false', Bool.not_eq_true, Bool.not_eq_false, beq_eq_false_iff_ne, ne_eq, bne_eq_false_iff_eq, Bool.and_eq_true, Bool.or_eq_true, Bool.not_not, Bool.and_eq_false_iff, Bool.or_eq_false_iff, Int.not_lt, Int.not_le] at hc1')
      refine CD.seq ?_
      refine CD.region ?_
      refine OD.still (wants_plain rfl) rfl (still_bin rfl ot opd_const bin_eql) ?_
      refine OD.still (wants_plain rfl) rfl (still_as rfl ot) ?_
      refine OD.wk (Wk.as_ (n := 53) (l' := [(1, _), (3, _), (8, _), (40, _)]) (S' := [⟨b1, 76, 3, [_, _, _]⟩]) rfl rfl ⟨lk, lk, lk, lk, trivial⟩) ?_
      refine OD.nil ?_
      refine CD.cond ot (fun hc3 => ?_) (fun hc3 => ?_)
      · have hc3' := hc3
        (try simp only [decide_eq_true_eq, decide_eq_false_iff_not, beq_iff_eq, bne_iff_ne, Bool.not_eq_true', Bool.not_eq_false', Bool.not_eq_true, Bool.not_eq_false, beq_eq_false_iff_ne, ne_eq, bne_eq_false_iff_eq, Bool.and_eq_true, Bool.or_eq_true, Bool.not_not, Bool.and_eq_false_iff, Bool.or_eq_false_iff, Int.not_lt, Int.not_le] at hc3')
        refine CD.skip ?_
        refine CD.seq ?_
        refine CD.seq ?_
        refine CD.region ?_
        refine OD.still (wants_plain rfl) rfl (still_mv rfl ot) ?_
        refine OD.still (wants_plain rfl) rfl (still_un rfl ot un_not) ?_
        refine OD.wk (Wk.as_ (n := 53) (l' := [(52, _)]) (S' := [⟨b1, 76, 3, [_, _, _]⟩]) rfl rfl ⟨lk, trivial⟩) ?_
        refine OD.nil ?_
        refine CD.cond ot (fun hc5 => ?_) (fun hc5 => ?_)
        · have hc5' := hc5
          (try simp only [decide_eq_true_eq, decide_eq_false_iff_not, beq_iff_eq, bne_iff_ne, Bool.not_eq_true', Bool.not_eq_false', Bool.not_eq_true, Bool.not_eq_false, beq_eq_false_iff_ne, ne_eq, bne_eq_false_iff_eq, Bool.and_eq_true, Bool.or_eq_true, Bool.not_not, Bool.and_eq_false_iff, Bool.or_eq_false_iff, Int.not_lt, Int.not_le] at hc5')
          refine CD.seq ?_
          refine CD.region ?_
          refine OD.still (wants_plain rfl) rfl (still_as rfl opd_const) ?_
          refine OD.wk (Wk.as_ (n := 53) (l' := [(2, _)]) (S' := [⟨b1, 76, 3, [_, _, _]⟩]) rfl rfl ⟨lk, trivial⟩) ?_
          refine OD.nil ?_
          refine CD.ret ?_
          refine ⟨.inr rfl, _, [], List.nil_sublist _, ret_one Tryd.results34 (res_tmp (Nat.le_of_ble_eq_true rfl) lk), ?_⟩
          refine ⟨vi ?_, rfl⟩
          try simp only [str_eq0] at *
          simp only [checkT, okWord]
          try simp_all
          try omega
        · have hc5' := hc5
          (try simp only [decide_eq_true_eq, decide_eq_false_iff_not, beq_iff_eq, bne_iff_ne, Bool.not_eq_true', Bool.not_eq_false', Bool.not_eq_true, Bool.not_eq_false, beq_eq_false_iff_ne, ne_eq, bne_eq_false_iff_eq, Bool.and_eq_true, Bool.or_eq_true, Bool.not_not, Bool.and_eq_false_iff, Bool.or_eq_false_iff, Int.not_lt, Int.not_le] at hc5')
          refine CD.skip ?_
          refine CD.seq ?_
          refine CD.region ?_
          refine OD.still (wants_plain rfl) rfl (still_as rfl opd_const) ?_
          refine OD.wk (Wk.as_ (n := 53) (l' := [(2, _)]) (S' := [⟨b1, 76, 3, [_, _, _]⟩]) rfl rfl ⟨lk, trivial⟩) ?_
          refine OD.nil ?_
          refine CD.ret ?_
          refine ⟨.inr rfl, _, [], List.nil_sublist _, ret_one Tryd.results34 (res_tmp (Nat.le_of_ble_eq_true rfl) lk), ?_⟩
          refine ⟨vi ?_, rfl⟩
          try simp only [str_eq0] at *
          simp only [checkT, okWord]
          try simp_all
          try omega
      · have hc3' := hc3
        (try simp only [decide_eq_true_eq, decide_eq_false_iff_not, beq_iff_eq, bne_iff_ne, Bool.not_eq_true', Bool.not_eq_false', Bool.not_eq_true, Bool.not_eq_false, beq_eq_false_iff_ne, ne_eq, bne_eq_false_iff_eq, Bool.and_eq_true, Bool.or_eq_true, Bool.not_not, Bool.and_eq_false_iff, Bool.or_eq_false_iff, Int.not_lt, Int.not_le] at hc3')
        refine CD.seq ?_
        refine CD.region ?_
        refine OD.still (wants_plain rfl) rfl (still_bin rfl ot opd_const bin_eql) ?_
        refine OD.still (wants_plain rfl) rfl (still_as rfl ot) ?_
        refine OD.wk (Wk.as_ (n := 53) (l' := [(1, _), (3, _), (42, _)]) (S' := [⟨b1, 76, 3, [_, _, _]⟩]) rfl rfl ⟨lk, lk, lk, trivial⟩) ?_
        refine OD.nil ?_
        refine CD.cond ot (fun hc4 => ?_) (fun hc4 => ?_)
        · have hc4' := hc4
          (try simp only [decide_eq_true_eq, decide_eq_false_iff_not, beq_iff_eq, bne_iff_ne, Bool.not_eq_true', Bool.not_eq_false', Bool.not_eq_true, Bool.not_eq_false, beq_eq_false_iff_ne, ne_eq, bne_eq_false_iff_eq, Bool.and_eq_true, Bool.or_eq_true, Bool.not_not, Bool.and_eq_false_iff, Bool.or_eq_false_iff, Int.not_lt, Int.not_le] at hc4')
          refine CD.draw (bks _) (by kernel_rfl) (fun _ h => h) ?_
          refine AD0.take (i := 0) rfl (by kernel_rfl) (by kernel_rfl) (by kernel_rfl) (by repeat (first | exact NP.body | apply NP.then | apply NP.cut | apply NP.inBlock | apply NP.round)) (wants_plain rfl) rfl (still_mv rfl ot) (by exact trivial) ?_
          refine AD0.take (i := 1) rfl (by kernel_rfl) (by kernel_rfl) (by kernel_rfl) (by repeat (first | exact NP.body | apply NP.then | apply NP.cut | apply NP.inBlock | apply NP.round)) (wants_plain rfl) rfl (still_mv rfl ot) (by exact trivial) ?_
          refine AD0.split (t := 45) lk (fun hg45 => ?_) (fun hg45 => ?_)
          · have hg45' := hg45; (try simp only [decide_eq_true_eq, decide_eq_false_iff_not, beq_iff_eq, bne_iff_ne, Bool.not_eq_true', Bool.not_eq_false', Bool.not_eq_true, Bool.not_eq_false, beq_eq_false_iff_ne, ne_eq, bne_eq_false_iff_eq, Bool.and_eq_true, Bool.or_eq_true, Bool.not_not, Bool.and_eq_false_iff, Bool.or_eq_false_iff, Int.not_lt, Int.not_le] at hg45')
            refine AD0.take (i := 2) rfl (by kernel_rfl) (by kernel_rfl) (by kernel_rfl) (by repeat (first | exact NP.body | apply NP.then | apply NP.cut | apply NP.inBlock | apply NP.round)) (wants_T rfl rfl rfl lk (by first | rfl | assumption)) rfl (still_rs (l := 0) (h := 0) rfl opd_glob trivial trivial (by first | exact sl_tabG (ls := marksL) (g := cS) hm rfl rfl Tryd.runUnderlying95 Tryd.sizeOf9 rfl (by decide) (by decide))) (by exact trivial) ?_
            refine AD0.take (i := 3) rfl (by kernel_rfl) (by kernel_rfl) (by kernel_rfl) (by repeat (first | exact NP.body | apply NP.then | apply NP.cut | apply NP.inBlock | apply NP.round)) (wants_T rfl rfl rfl lk (by first | rfl | assumption)) rfl (still_r1 (mk := fun y => Op.fieldAddr 76 y 1) rfl ot (by first | exact fa_ptr (off := 1) Tryd.runUnderlying76 rfl Tryd.sizeOf9 rfl | exact fa_iptr (off := 1) Tryd.runUnderlying76 rfl Tryd.sizeOf9 rfl)) (by exact trivial) ?_
            refine AD0.take (i := 4) rfl (by kernel_rfl) (by kernel_rfl) (by kernel_rfl) (by repeat (first | exact NP.body | apply NP.then | apply NP.cut | apply NP.inBlock | apply NP.round)) (wants_T rfl rfl rfl lk (by first | rfl | assumption)) rfl (still_r1 (mk := Op.load 9) rfl ot (by first | exact ld_blk (k := 0) rfl rfl Tryd.isAgg9 rfl | exact ld_i Tryd.isAgg9 rfl)) (by first | exact trivial | exact safe_blk (k0 := 0) rfl rfl) ?_
            refine AD0.later rfl ?_
            refine AD.one (i := 5) (by kernel_rfl) ?_
            refine AStep.callP rfl (wants_T rfl rfl rfl lk (by first | rfl | assumption)) rfl rfl rfl Tryd.call35 (contains_vp marksL t.s (by decide)) ⟨ot, ot, trivial⟩ ?_
            refine AD.take (i := 6) rfl (by kernel_rfl) (by kernel_rfl) (by kernel_rfl) (by repeat (first | exact NP.body | apply NP.then | apply NP.cut | apply NP.inBlock | apply NP.round)) (wants_plain rfl) rfl (still_pickT rfl ot (by first | rfl | assumption) ot) (by exact trivial) (by intro h; cases h) ?_
            refine AD.take (i := 7) rfl (by kernel_rfl) (by kernel_rfl) (by kernel_rfl) (by repeat (first | exact NP.body | apply NP.then | apply NP.cut | apply NP.inBlock | apply NP.round)) (wants_plain rfl) rfl (still_as rfl ot) (by exact trivial) (by intro h; cases h) ?_
            refine AD.wk (y := ⟨53, [(3, _)], [⟨b1, 76, 3, [_, _, _]⟩]⟩) (Wk.as_ rfl rfl ⟨lk, trivial⟩) rfl ?_
            refine AD.done (by kernel_rfl) ?_
            refine CD.seq ?_
            refine CD.seq ?_
            refine CD.region ?_
            refine OD.still (wants_plain rfl) rfl (still_mv rfl ot) ?_
            refine OD.still (wants_plain rfl) rfl (still_un rfl ot un_not) ?_
            refine OD.wk (Wk.as_ (n := 53) (l' := [(52, _)]) (S' := [⟨b1, 76, 3, [_, _, _]⟩]) rfl rfl ⟨lk, trivial⟩) ?_
            refine OD.nil ?_
            refine CD.cond ot (fun hc5 => ?_) (fun hc5 => ?_)
            · have hc5' := hc5
              (try simp only [decide_eq_true_eq, decide_eq_false_iff_not, beq_iff_eq, bne_iff_ne, Bool.not_eq_true', Bool.not_eq_false', Bool.not_eq_true, Bool.not_eq_false, beq_eq_false_iff_ne, ne_eq, bne_eq_false_iff_eq, Bool.and_eq_true, Bool.or_eq_true, Bool.not_not, Bool.and_eq_false_iff, Bool.or_eq_false_iff, Int.not_lt, Int.not_le] at hc5')
              refine CD.seq ?_
              refine CD.region ?_
              refine OD.still (wants_plain rfl) rfl (still_as rfl opd_const) ?_
              refine OD.wk (Wk.as_ (n := 53) (l' := [(2, _)]) (S' := [⟨b1, 76, 3, [_, _, _]⟩]) rfl rfl ⟨lk, trivial⟩) ?_
              refine OD.nil ?_
              refine CD.ret ?_
              refine ⟨.inr rfl, _, [], List.nil_sublist _, ret_one Tryd.results34 (res_tmp (Nat.le_of_ble_eq_true rfl) lk), ?_⟩
              refine ⟨vi ?_, rfl⟩
              try simp only [str_eq0] at *
              simp only [checkT, okWord]
              try simp_all
              try omega
            · have hc5' := hc5
              (try simp only [decide_eq_true_eq, decide_eq_false_iff_not, beq_iff_eq, bne_iff_ne, Bool.not_eq_true', Bool.not_eq_false', Bool.not_eq_true, Bool.not_eq_false, beq_eq_false_iff_ne, ne_eq, bne_eq_false_iff_eq, Bool.and_eq_true, Bool.or_eq_true, Bool.not_not, Bool.and_eq_false_iff, Bool.or_eq_false_iff, Int.not_lt, Int.not_le] at hc5')
              refine CD.skip ?_
              refine CD.seq ?_
              refine CD.region ?_
              refine OD.still (wants_plain rfl) rfl (still_as rfl opd_const) ?_
              refine OD.wk (Wk.as_ (n := 53) (l' := [(2, _)]) (S' := [⟨b1, 76, 3, [_, _, _]⟩]) rfl rfl ⟨lk, trivial⟩) ?_
              refine OD.nil ?_
              refine CD.ret ?_
              refine ⟨.inr rfl, _, [], List.nil_sublist _, ret_one Tryd.results34 (res_tmp (Nat.le_of_ble_eq_true rfl) lk), ?_⟩
              refine ⟨vi ?_, rfl⟩
              try simp only [str_eq0] at *
              simp only [checkT, okWord]
              try simp_all
              try omega
          · have hg45' := hg45; (try simp only [decide_eq_true_eq, decide_eq_false_iff_not, beq_iff_eq, bne_iff_ne, Bool.not_eq_true', Bool.not_eq_false', Bool.not_eq_true, Bool.not_eq_false, beq_eq_false_iff_ne, ne_eq, bne_eq_false_iff_eq, Bool.and_eq_true, Bool.or_eq_true, Bool.not_not, Bool.and_eq_false_iff, Bool.or_eq_false_iff, Int.not_lt, Int.not_le] at hg45')
            refine AD0.takeSkip (i := 2) rfl (by kernel_rfl) (by kernel_rfl) (by kernel_rfl) (by repeat (first | exact NP.body | apply NP.then | apply NP.cut | apply NP.inBlock | apply NP.round)) (wants_F rfl rfl rfl lk (by first | rfl | assumption)) rfl ?_
            refine AD0.takeSkip (i := 3) rfl (by kernel_rfl) (by kernel_rfl) (by kernel_rfl) (by repeat (first | exact NP.body | apply NP.then | apply NP.cut | apply NP.inBlock | apply NP.round)) (wants_F rfl rfl rfl lk (by first | rfl | assumption)) rfl ?_
            refine AD0.takeSkip (i := 4) rfl (by kernel_rfl) (by kernel_rfl) (by kernel_rfl) (by repeat (first | exact NP.body | apply NP.then | apply NP.cut | apply NP.inBlock | apply NP.round)) (wants_F rfl rfl rfl lk (by first | rfl | assumption)) rfl ?_
            refine AD0.later rfl ?_
            refine AD.one (i := 5) (by kernel_rfl) ?_
            refine AStep.skip rfl (wants_F rfl rfl rfl lk (by first | rfl | assumption)) rfl ?_
            refine AD.take (i := 6) rfl (by kernel_rfl) (by kernel_rfl) (by kernel_rfl) (by repeat (first | exact NP.body | apply NP.then | apply NP.cut | apply NP.inBlock | apply NP.round)) (wants_plain rfl) rfl (still_pickF rfl ot (by first | rfl | assumption) opd_const) (by exact trivial) (by intro h; cases h) ?_
            refine AD.take (i := 7) rfl (by kernel_rfl) (by kernel_rfl) (by kernel_rfl) (by repeat (first | exact NP.body | apply NP.then | apply NP.cut | apply NP.inBlock | apply NP.round)) (wants_plain rfl) rfl (still_as rfl ot) (by exact trivial) (by intro h; cases h) ?_
            refine AD.wk (y := ⟨53, [(3, _)], [⟨b1, 76, 3, [_, _, _]⟩]⟩) (Wk.as_ rfl rfl ⟨lk, trivial⟩) rfl ?_
            refine AD.done (by kernel_rfl) ?_
            refine CD.seq ?_
            refine CD.seq ?_
            refine CD.region ?_
            refine OD.still (wants_plain rfl) rfl (still_mv rfl ot) ?_
            refine OD.still (wants_plain rfl) rfl (still_un rfl ot un_not) ?_
            refine OD.wk (Wk.as_ (n := 53) (l' := [(52, _)]) (S' := [⟨b1, 76, 3, [_, _, _]⟩]) rfl rfl ⟨lk, trivial⟩) ?_
            refine OD.nil ?_
            refine CD.condT ot (by first | rfl | assumption) ?_
            refine CD.seq ?_
            refine CD.region ?_
            refine OD.still (wants_plain rfl) rfl (still_as rfl opd_const) ?_
            refine OD.wk (Wk.as_ (n := 53) (l' := [(2, _)]) (S' := [⟨b1, 76, 3, [_, _, _]⟩]) rfl rfl ⟨lk, trivial⟩) ?_
            refine OD.nil ?_
            refine CD.ret ?_
            refine ⟨.inr rfl, _, [], List.nil_sublist _, ret_one Tryd.results34 (res_tmp (Nat.le_of_ble_eq_true rfl) lk), ?_⟩
            refine ⟨vi ?_, rfl⟩
            try simp only [str_eq0] at *
            simp only [checkT, okWord]
            try simp_all
            try omega
        · have hc4' := hc4
          (try simp only [decide_eq_true_eq, decide_eq_false_iff_not, beq_iff_eq, bne_iff_ne, Bool.not_eq_true', Bool.not_eq_false', Bool.not_eq_true, Bool.not_eq_false, beq_eq_false_iff_ne, ne_eq, bne_eq_false_iff_eq, Bool.and_eq_true, Bool.or_eq_true, Bool.not_not, Bool.and_eq_false_iff, Bool.or_eq_false_iff, Int.not_lt, Int.not_le] at hc4')
          refine CD.seq ?_
          refine CD.region ?_
          refine OD.still (wants_plain rfl) rfl (still_as rfl opd_const) ?_
          refine OD.wk (Wk.as_ (n := 53) (l' := [(2, _)]) (S' := [⟨b1, 76, 3, [_, _, _]⟩]) rfl rfl ⟨lk, trivial⟩) ?_
          refine OD.nil ?_
          refine CD.ret ?_
          refine ⟨.inr rfl, _, [], List.nil_sublist _, ret_one Tryd.results34 (res_tmp (Nat.le_of_ble_eq_true rfl) lk), ?_⟩
          refine ⟨vi ?_, rfl⟩
          try simp only [str_eq0] at *
          simp only [checkT, okWord]
          try simp_all
          try omega

theorem places76_Nm1 : ∀ w, ((#[{ name := "Kind", type := 3, offset := 0, embedded := false, tag := "", pkgPath := "", byteOffset := 0 }, { name := "Text", type := 9, offset := 1, embedded := false, tag := "", pkgPath := "", byteOffset := 8 }, { name := "Int", type := 3, offset := 2, embedded := false, tag := "", pkgPath := "", byteOffset := 24 }] : Array Field).mapM fun f => do pure (f.offset, ← sizeOf f.type) : Sem (Array (Nat × Nat))).run Tryd.prog w = .ok #[(0, 1), (1, 1), (2, 1)] w := fun w => by simp [Tryd.sizeOf3, Tryd.sizeOf9]

theorem name_vp (hm : (1, marksC) ∈ G) (hw : (0, wordsC) ∈ G) (s : ByteArray) (hs : s.size ≤ maxLen) : VP Tryd.prog G 19 [.v (.string s)] (.v (.int .i64 (nameF s))) := by
  refine VC.body Tryd.func19 rfl Tryd.ntmps19 (Nat.le_of_ble_eq_true rfl) fun X0 w0 S00 => ?_
  refine CD.seq ?_
  refine CD.region ?_
  refine OD.still (wants_plain rfl) rfl (still_as rfl opd_const) ?_
  refine OD.wk (Wk.as_ (n := 15) (l' := [(0, _)]) (S' := []) rfl rfl ⟨lk, trivial⟩) ?_
  refine OD.nil ?_
  refine CD.seq ?_
  refine CD.seq ?_
  refine CD.region ?_
  refine OD.still (wants_plain rfl) rfl (still_mv rfl ot) ?_
  refine OD.still (wants_plain rfl) rfl (still_slen rfl rfl ot Tryd.runUnderlying9) ?_
  refine OD.still (wants_plain rfl) rfl (still_bin rfl ot opd_const bin_gtr) ?_
  refine OD.wk (Wk.as_ (n := 15) (l' := [(0, _), (5, _)]) (S' := []) rfl rfl ⟨lk, lk, trivial⟩) ?_
  refine OD.nil ?_
  refine CD.cond ot (fun hc0 => ?_) (fun hc0 => ?_)
  · have hc0' := hc0
    (try simp only [decide_eq_true_eq, decide_eq_false_iff_not, beq_iff_eq, bne_iff_ne, Bool.not_eq_true', Bool.not_eq_false', Bool.not_eq_true, Bool.not_eq_false, beq_eq_false_iff_ne, ne_eq, bne_eq_false_iff_eq, Bool.and_eq_true, Bool.or_eq_true, Bool.not_not, Bool.and_eq_false_iff, Bool.or_eq_false_iff, Int.not_lt, Int.not_le] at hc0')
    refine CD.seq ?_
    refine CD.region ?_
    refine OD.still (wants_plain rfl) rfl (still_as rfl opd_const) ?_
    refine OD.wk (Wk.as_ (n := 15) (l' := [(2, _)]) (S' := []) rfl rfl ⟨lk, trivial⟩) ?_
    refine OD.nil ?_
    refine CD.ret ?_
    refine ⟨.inr rfl, _, [], List.nil_sublist _, ret_one Tryd.results19 (res_tmp (Nat.le_of_ble_eq_true rfl) lk), ?_⟩
    refine ⟨vi ?_, rfl⟩
    try simp only [check_word] at *
    simp only [nameF]
    first | (rw [if_pos (by omega)]; done) | (rw [if_neg (by omega)]; cases h1 : okWord s <;> cases h2 : wordsL.any (eqS s) <;> simp_all)
  · have hc0' := hc0
    (try simp only [decide_eq_true_eq, decide_eq_false_iff_not, beq_iff_eq, bne_iff_ne, Bool.not_eq_true', Bool.not_eq_false', Bool.not_eq_true, Bool.not_eq_false, beq_eq_false_iff_ne, ne_eq, bne_eq_false_iff_eq, Bool.and_eq_true, Bool.or_eq_true, Bool.not_not, Bool.and_eq_false_iff, Bool.or_eq_false_iff, Int.not_lt, Int.not_le] at hc0')
    refine CD.skip ?_
    refine CD.seq ?_
    refine CD.seq ?_
    refine CD.region ?_
    refine OD.still (wants_plain rfl) rfl (still_mv rfl ot) ?_
    refine OD.still (wants_plain rfl) rfl (still_bld (pl := [(0, _), (1, _)]) (ds := [_, _, _]) rfl Tryd.zeroValue76 Tryd.runUnderlying76 places76_Nm1 ⟨rfl, opd_const, rfl, ot, trivial⟩ rfl rfl) ?_
    refine OD.callP (wants_plain rfl) rfl rfl rfl Tryd.call34 (check_vp hm ⟨1, s, 0⟩ hs) ⟨ot, trivial⟩ ?_
    refine OD.still (wants_plain rfl) rfl (still_bin rfl ot opd_const bin_neq) ?_
    refine OD.still (wants_plain rfl) rfl (still_mv rfl ot) ?_
    refine OD.split (t := 10) lk (fun hg10 => ?_) (fun hg10 => ?_)
    · have hg10' := hg10; (try simp only [decide_eq_true_eq, decide_eq_false_iff_not, beq_iff_eq, bne_iff_ne, Bool.not_eq_true', Bool.not_eq_false', Bool.not_eq_true, Bool.not_eq_false, beq_eq_false_iff_ne, ne_eq, bne_eq_false_iff_eq, Bool.and_eq_true, Bool.or_eq_true, Bool.not_not] at hg10')
      refine OD.skip (wants_F rfl rfl rfl lk (by first | rfl | assumption)) rfl ?_
      refine OD.skip (wants_F rfl rfl rfl lk (by first | rfl | assumption)) rfl ?_
      refine OD.skip (wants_F rfl rfl rfl lk (by first | rfl | assumption)) rfl ?_
      refine OD.still (wants_plain rfl) rfl (still_pickT rfl ot (by first | rfl | assumption) opd_const) ?_
      refine OD.wk (Wk.as_ (n := 15) (l' := [(14, _)]) (S' := []) rfl rfl ⟨lk, trivial⟩) ?_
      refine OD.nil ?_
      refine CD.condT ot (by first | rfl | assumption) ?_
      refine CD.seq ?_
      refine CD.region ?_
      refine OD.still (wants_plain rfl) rfl (still_as rfl opd_const) ?_
      refine OD.wk (Wk.as_ (n := 15) (l' := [(2, _)]) (S' := []) rfl rfl ⟨lk, trivial⟩) ?_
      refine OD.nil ?_
      refine CD.ret ?_
      refine ⟨.inr rfl, _, [], List.nil_sublist _, ret_one Tryd.results19 (res_tmp (Nat.le_of_ble_eq_true rfl) lk), ?_⟩
      refine ⟨vi ?_, rfl⟩
      try simp only [check_word] at *
      simp only [nameF]
      first | (rw [if_pos (by omega)]; done) | (rw [if_neg (by omega)]; cases h1 : okWord s <;> cases h2 : wordsL.any (eqS s) <;> simp_all)
    · have hg10' := hg10; (try simp only [decide_eq_true_eq, decide_eq_false_iff_not, beq_iff_eq, bne_iff_ne, Bool.not_eq_true', Bool.not_eq_false', Bool.not_eq_true, Bool.not_eq_false, beq_eq_false_iff_ne, ne_eq, bne_eq_false_iff_eq, Bool.and_eq_true, Bool.or_eq_true, Bool.not_not] at hg10')
      refine OD.still (wants_T rfl rfl rfl lk (by first | rfl | assumption)) rfl (still_rs (l := 0) (h := 0) rfl opd_glob trivial trivial (by first | exact sl_tabG (ls := wordsL) (g := cS) hw rfl rfl Tryd.runUnderlying78 Tryd.sizeOf9 rfl (by decide) (by decide))) ?_
      refine OD.still (wants_T rfl rfl rfl lk (by first | rfl | assumption)) rfl (still_mv rfl ot) ?_
      refine OD.callP (wants_T rfl rfl rfl lk (by first | rfl | assumption)) rfl rfl rfl Tryd.call35 (contains_vp wordsL s (by decide)) ⟨ot, ot, trivial⟩ ?_
      refine OD.still (wants_plain rfl) rfl (still_pickF rfl ot (by first | rfl | assumption) ot) ?_
      refine OD.wk (Wk.as_ (n := 15) (l' := [(14, _)]) (S' := []) rfl rfl ⟨lk, trivial⟩) ?_
      refine OD.nil ?_
      refine CD.cond ot (fun hc1 => ?_) (fun hc1 => ?_)
      · have hc1' := hc1
        (try simp only [decide_eq_true_eq, decide_eq_false_iff_not, beq_iff_eq, bne_iff_ne, Bool.not_eq_true', Bool.not_eq_false', Bool.not_eq_true, Bool.not_eq_false, beq_eq_false_iff_ne, ne_eq, bne_eq_false_iff_eq, Bool.and_eq_true, Bool.or_eq_true, Bool.not_not, Bool.and_eq_false_iff, Bool.or_eq_false_iff, Int.not_lt, Int.not_le] at hc1')
        refine CD.seq ?_
        refine CD.region ?_
        refine OD.still (wants_plain rfl) rfl (still_as rfl opd_const) ?_
        refine OD.wk (Wk.as_ (n := 15) (l' := [(2, _)]) (S' := []) rfl rfl ⟨lk, trivial⟩) ?_
        refine OD.nil ?_
        refine CD.ret ?_
        refine ⟨.inr rfl, _, [], List.nil_sublist _, ret_one Tryd.results19 (res_tmp (Nat.le_of_ble_eq_true rfl) lk), ?_⟩
        refine ⟨vi ?_, rfl⟩
        try simp only [check_word] at *
        simp only [nameF]
        first | (rw [if_pos (by omega)]; done) | (rw [if_neg (by omega)]; cases h1 : okWord s <;> cases h2 : wordsL.any (eqS s) <;> simp_all)
      · have hc1' := hc1
        (try simp only [decide_eq_true_eq, decide_eq_false_iff_not, beq_iff_eq, bne_iff_ne, Bool.not_eq_true', Bool.not_eq_false', Bool.not_eq_true, Bool.not_eq_false, beq_eq_false_iff_ne, ne_eq, bne_eq_false_iff_eq, Bool.and_eq_true, Bool.or_eq_true, Bool.not_not, Bool.and_eq_false_iff, Bool.or_eq_false_iff, Int.not_lt, Int.not_le] at hc1')
        refine CD.skip ?_
        refine CD.seq ?_
        refine CD.region ?_
        refine OD.still (wants_plain rfl) rfl (still_as rfl opd_const) ?_
        refine OD.wk (Wk.as_ (n := 15) (l' := [(2, _)]) (S' := []) rfl rfl ⟨lk, trivial⟩) ?_
        refine OD.nil ?_
        refine CD.ret ?_
        refine ⟨.inr rfl, _, [], List.nil_sublist _, ret_one Tryd.results19 (res_tmp (Nat.le_of_ble_eq_true rfl) lk), ?_⟩
        refine ⟨vi ?_, rfl⟩
        try simp only [check_word] at *
        simp only [nameF]
        first | (rw [if_pos (by omega)]; done) | (rw [if_neg (by omega)]; cases h1 : okWord s <;> cases h2 : wordsL.any (eqS s) <;> simp_all)

end Go.Proofs.YtoemmoeedhllfaaDoor.Nm

namespace Go.Proofs.YtoemmoeedhllfaaDoor.Pk
open Go.RowKit V
set_option linter.unusedVariables false
set_option linter.unusedSimpArgs false

def pickedF (n m : Int) : Int := if n < 0 then (-(n + 1)).tmod m else n.tmod m
theorem pickedF_bd (n : Int) {m : Int} (h : 1 ≤ m) : 0 ≤ pickedF n m ∧ pickedF n m < m := by
  have key : ∀ k : Int, 0 ≤ k → 0 ≤ k.tmod m ∧ k.tmod m < m := fun k hk => ⟨Int.tmod_nonneg _ hk, Int.tmod_lt_of_pos _ (by omega)⟩
  unfold pickedF
  split
  · exact key _ (by omega)
  · exact key _ (by omega)
variable (G : List (Nat × List Value))

theorem picked_vp (n m : Int) (hn : -9223372036854775808 ≤ n) (hn2 : n ≤ 9223372036854775807) (hm : 1 ≤ m) : VP Tryd.prog G 15 [.v (.int .i64 n), .v (.int .i64 m)] (.v (.int .i64 (pickedF n m))) := by
  refine VC.body Tryd.func15 rfl Tryd.ntmps15 (Nat.le_of_ble_eq_true rfl) fun X0 w0 S00 => ?_
  refine CD.seq ?_
  refine CD.region ?_
  refine OD.still (wants_plain rfl) rfl (still_as rfl opd_const) ?_
  refine OD.wk (Wk.as_ (n := 13) (l' := [(0, _), (1, _)]) (S' := []) rfl rfl ⟨lk, lk, trivial⟩) ?_
  refine OD.nil ?_
  refine CD.seq ?_
  refine CD.seq ?_
  refine CD.region ?_
  refine OD.still (wants_plain rfl) rfl (still_mv rfl ot) ?_
  refine OD.still (wants_plain rfl) rfl (still_bin rfl ot opd_const bin_lss) ?_
  refine OD.wk (Wk.as_ (n := 13) (l' := [(0, _), (1, _), (6, _)]) (S' := []) rfl rfl ⟨lk, lk, lk, trivial⟩) ?_
  refine OD.nil ?_
  refine CD.cond ot (fun hc0 => ?_) (fun hc0 => ?_)
  · have hc0' := hc0
    (try simp only [decide_eq_true_eq, decide_eq_false_iff_not, beq_iff_eq, bne_iff_ne, Bool.not_eq_true', Bool.not_eq_false', Bool.not_eq_true, Bool.not_eq_false, beq_eq_false_iff_ne, ne_eq, bne_eq_false_iff_eq, Bool.and_eq_true, Bool.or_eq_true, Bool.not_not, Bool.and_eq_false_iff, Bool.or_eq_false_iff, Int.not_lt, Int.not_le] at hc0')
    refine CD.region ?_
    refine OD.still (wants_plain rfl) rfl (still_mv rfl ot) ?_
    refine OD.still (wants_plain rfl) rfl (still_bin rfl ot opd_const (bin_add (wrap_i64 (by omega) (by omega)))) ?_
    refine OD.still (wants_plain rfl) rfl (still_un rfl ot (un_neg (r := -(n+1)) (by rw [wrap_i64] <;> omega))) ?_
    refine OD.still (wants_plain rfl) rfl (still_as rfl ot) ?_
    refine OD.wk (Wk.as_ (n := 13) (l' := [(0, _), (1, _)]) (S' := []) rfl rfl ⟨lk, lk, trivial⟩) ?_
    refine OD.nil ?_
    refine CD.seq ?_
    refine CD.region ?_
    refine OD.still (wants_plain rfl) rfl (still_mv rfl ot) ?_
    refine OD.still (wants_plain rfl) rfl (still_mv rfl ot) ?_
    refine OD.still (wants_plain rfl) rfl (still_bin rfl ot ot (bin_rem (by omega))) ?_
    refine OD.still (wants_plain rfl) rfl (still_as rfl ot) ?_
    refine OD.wk (Wk.as_ (n := 13) (l' := [(4, _)]) (S' := []) rfl rfl ⟨lk, trivial⟩) ?_
    refine OD.nil ?_
    refine CD.ret ?_
    refine ⟨.inr rfl, _, [], List.nil_sublist _, ret_one Tryd.results15 (res_tmp (Nat.le_of_ble_eq_true rfl) lk), ?_⟩
    exact ⟨by unfold pickedF; split <;> first | rfl | omega, rfl⟩
  · have hc0' := hc0
    (try simp only [decide_eq_true_eq, decide_eq_false_iff_not, beq_iff_eq, bne_iff_ne, Bool.not_eq_true', Bool.not_eq_false', Bool.not_eq_true, Bool.not_eq_false, beq_eq_false_iff_ne, ne_eq, bne_eq_false_iff_eq, Bool.and_eq_true, Bool.or_eq_true, Bool.not_not, Bool.and_eq_false_iff, Bool.or_eq_false_iff, Int.not_lt, Int.not_le] at hc0')
    refine CD.skip ?_
    refine CD.seq ?_
    refine CD.region ?_
    refine OD.still (wants_plain rfl) rfl (still_mv rfl ot) ?_
    refine OD.still (wants_plain rfl) rfl (still_mv rfl ot) ?_
    refine OD.still (wants_plain rfl) rfl (still_bin rfl ot ot (bin_rem (by omega))) ?_
    refine OD.still (wants_plain rfl) rfl (still_as rfl ot) ?_
    refine OD.wk (Wk.as_ (n := 13) (l' := [(4, _)]) (S' := []) rfl rfl ⟨lk, trivial⟩) ?_
    refine OD.nil ?_
    refine CD.ret ?_
    refine ⟨.inr rfl, _, [], List.nil_sublist _, ret_one Tryd.results15 (res_tmp (Nat.le_of_ble_eq_true rfl) lk), ?_⟩
    exact ⟨by unfold pickedF; split <;> first | rfl | omega, rfl⟩

end Go.Proofs.YtoemmoeedhllfaaDoor.Pk

namespace Go.Proofs.YtoemmoeedhllfaaDoor.Nm
open Go.RowKit V Pk
set_option linter.unusedVariables false
set_option linter.unusedSimpArgs false

theorem mk_data (l : List UInt8) : (⟨l.toArray⟩ : ByteArray).data.toList = l := rfl
theorem mk_size (l : List UInt8) : (⟨l.toArray⟩ : ByteArray).size = l.length := by rw [← str_len]
theorem takeWhile_all {p : UInt8 → Bool} : ∀ {l : List UInt8}, (∀ c ∈ l, p c = true) → l.takeWhile p = l
  | [], _ => rfl
  | a :: l, h => by rw [List.takeWhile_cons, if_pos (h a List.mem_cons_self), takeWhile_all fun c hc => h c (List.mem_cons_of_mem _ hc)]
theorem small_letter {c : UInt8} (h : 97 ≤ c.toNat ∧ c.toNat ≤ 122) : letterB c = true := by unfold letterB; exact decide_eq_true (.inl h)
theorem small_ok {l : List UInt8} (h1 : 1 ≤ l.length) (h : ∀ c ∈ l, 97 ≤ c.toNat ∧ c.toNat ≤ 122) : okWord ⟨l.toArray⟩ = true := by
  unfold okWord spanN
  rw [mk_size, mk_data, takeWhile_all fun c hc => by unfold wordB; rw [small_letter (h c hc)]; rfl]
  have h0 : byteAt ⟨l.toArray⟩ 0 ∈ l := by
    unfold byteAt
    rw [mk_data, List.getD_eq_getElem?_getD, List.getElem?_eq_getElem (by omega)]
    exact List.getElem_mem _
  rw [small_letter (h _ h0)]
  have : l.length ≠ 0 := by omega
  simp [this]
theorem words_first : ∀ x ∈ wordsL, (byteAt x 0).toNat ≤ 90 := by decide
theorem small_kept {l : List UInt8} (h1 : 1 ≤ l.length) (h : ∀ c ∈ l, 97 ≤ c.toNat ∧ c.toNat ≤ 122) : wordsL.any (eqS ⟨l.toArray⟩) = false := by
  rw [List.any_eq_false]
  intro x hx he
  have he := eqS_iff.1 he
  have h0 : byteAt ⟨l.toArray⟩ 0 ∈ l := by
    unfold byteAt
    rw [mk_data, List.getD_eq_getElem?_getD, List.getElem?_eq_getElem (by omega)]
    exact List.getElem_mem _
  have := h _ h0
  have h2 := words_first x hx
  rw [← he] at h2
  omega
theorem small_name {l : List UInt8} (h1 : 1 ≤ l.length) (h8 : l.length ≤ 8) (h : ∀ c ∈ l, 97 ≤ c.toNat ∧ c.toNat ≤ 122) : nameF ⟨l.toArray⟩ = 0 := by
  unfold nameF
  rw [mk_size, if_neg (by omega), small_ok h1 h, small_kept h1 h]
  rfl
variable {G : List (Nat × List Value)}

abbrev MarksTab (w : World) : Prop := Tab.TabAt w 1 marksC
abbrev WordsTab (w : World) : Prop := Tab.TabAt w 0 wordsC
end Go.Proofs.YtoemmoeedhllfaaDoor.Nm

namespace Go.Proofs.YtoemmoeedhllfaaDoor.Vl
open Go.RowKit V Pk
set_option linter.unusedVariables false
set_option linter.unusedSimpArgs false

/-- A value, or a raw one. -/
structure Vl where
  k : Int
  n : Int
  s : ByteArray
def cV (v : Vl) : List D := [.v (.int .i64 v.k), .v (.int .i64 v.n), .v (.string v.s)]
structure Vl.Ok (v : Vl) : Prop where
  k1 : -9223372036854775808 ≤ v.k
  k2 : v.k ≤ 9223372036854775807
  n1 : -9223372036854775808 ≤ v.n
  n2 : v.n ≤ 9223372036854775807
  s : v.s.size ≤ maxLen
def noVl : Vl := ⟨0, 0, ⟨#[]⟩⟩
/-- What value.Check answers. -/
def checkV (v : Vl) : Int :=
  if v.k = 0 then (if v.n ≠ 0 ∨ v.s.size ≠ 0 then 6 else 0)
  else if v.k = 1 then (if v.n < 0 ∨ v.n > 1 ∨ v.s.size ≠ 0 then 6 else 0)
  else if v.k = 2 then (if v.s.size ≠ 0 then 6 else 0)
  else if v.k = 3 then (if v.n ≠ 0 then 6 else if v.s.size > 20 then 1 else 0)
  else 2
def cutF (s : ByteArray) (m : Nat) : ByteArray := s.extract 0 (min s.size m)
def valueF (r : Vl) : Vl :=
  if pickedF r.k 4 = 1 then ⟨1, pickedF r.n 2, ⟨#[]⟩⟩
  else if pickedF r.k 4 = 2 then ⟨2, r.n, ⟨#[]⟩⟩
  else if pickedF r.k 4 = 3 then ⟨3, 0, cutF r.s 10⟩
  else noVl
theorem cutF_list (s : ByteArray) (m : Nat) : (cutF s m).data.toList = s.data.toList.take m := by
  unfold cutF
  rw [ByteArray.data_extract, Array.toList_extract]
  simp only [List.extract_eq_take_drop, List.drop_zero, Nat.sub_zero]
  rw [← str_len]
  rcases Nat.le_total s.data.toList.length m with h | h
  · rw [Nat.min_eq_left h, List.take_length, List.take_of_length_le h]
  · rw [Nat.min_eq_right h]
theorem cutF_size (s : ByteArray) (m : Nat) : (cutF s m).size = min s.size m := by
  rw [← str_len, cutF_list, List.length_take, str_len, Nat.min_comm]
variable {G : List (Nat × List Value)}

theorem check_vp (v : Vl) : VP Tryd.prog G 29 [.agg (cV v)] (.v (.int .i64 (checkV v))) := by
  refine VC.body Tryd.func29 rfl Tryd.ntmps29 (Nat.le_of_ble_eq_true rfl) fun X0 w0 S00 => ?_
  unfold cV
  refine CD.seq ?_
  refine CD.region ?_
  refine OD.box (ds := [_, _, _]) (wants_plain rfl) rfl rfl ot rfl rfl (fun b1 => ?_)
  refine OD.still (wants_plain rfl) rfl (still_as rfl opd_const) ?_
  refine OD.wk (Wk.as_ (n := 44) (l' := [(1, _)]) (S' := [⟨b1, 30, 3, [_, _, _]⟩]) rfl rfl ⟨lk, trivial⟩) ?_
  refine OD.nil ?_
  refine CD.seq ?_
  refine CD.seq ?_
  refine CD.region ?_
  refine OD.still (wants_plain rfl) rfl (still_r1 (mk := fun y => Op.fieldAddr 30 y 0) rfl ot (by first | exact fa_ptr (off := 0) Tryd.runUnderlying30 rfl Tryd.sizeOf3 rfl | exact fa_iptr (off := 0) Tryd.runUnderlying30 rfl Tryd.sizeOf3 rfl)) ?_
  refine OD.still (wants_plain rfl) rfl (still_r1 (mk := Op.load 3) rfl ot (by first | exact ld_blk (k := 0) rfl rfl Tryd.isAgg3 rfl | exact ld_i Tryd.isAgg3 rfl)) ?_
  refine OD.wk (Wk.as_ (n := 44) (l' := [(1, _), (4, _)]) (S' := [⟨b1, 30, 3, [_, _, _]⟩]) rfl rfl ⟨lk, lk, trivial⟩) ?_
  refine OD.nil ?_
  refine CD.block ?_
  refine CD.seq ?_
  refine CD.region ?_
  refine OD.still (wants_plain rfl) rfl (still_bin rfl ot opd_const bin_eql) ?_
  refine OD.still (wants_plain rfl) rfl (still_as rfl ot) ?_
  refine OD.wk (Wk.as_ (n := 44) (l' := [(1, _), (4, _), (5, _)]) (S' := [⟨b1, 30, 3, [_, _, _]⟩]) rfl rfl ⟨lk, lk, lk, trivial⟩) ?_
  refine OD.nil ?_
  refine CD.cond ot (fun hc0 => ?_) (fun hc0 => ?_)
  · have hc0' := hc0
    (try simp only [decide_eq_true_eq, decide_eq_false_iff_not, beq_iff_eq, bne_iff_ne, Bool.not_eq_true', Bool.not_eq_false', Bool.not_eq_true, Bool.not_eq_false, beq_eq_false_iff_ne, ne_eq, bne_eq_false_iff_eq, Bool.and_eq_true, Bool.or_eq_true, Bool.not_not, Bool.and_eq_false_iff, Bool.or_eq_false_iff, Int.not_lt, Int.not_le] at hc0')
    refine CD.seq ?_
    refine CD.region ?_
    refine OD.still (wants_plain rfl) rfl (still_r1 (mk := fun y => Op.fieldAddr 30 y 1) rfl ot (by first | exact fa_ptr (off := 1) Tryd.runUnderlying30 rfl Tryd.sizeOf3 rfl | exact fa_iptr (off := 1) Tryd.runUnderlying30 rfl Tryd.sizeOf3 rfl)) ?_
    refine OD.still (wants_plain rfl) rfl (still_r1 (mk := Op.load 3) rfl ot (by first | exact ld_blk (k := 0) rfl rfl Tryd.isAgg3 rfl | exact ld_i Tryd.isAgg3 rfl)) ?_
    refine OD.still (wants_plain rfl) rfl (still_bin rfl ot opd_const bin_neq) ?_
    refine OD.still (wants_plain rfl) rfl (still_mv rfl ot) ?_
    refine OD.split (t := 10) lk (fun hg10 => ?_) (fun hg10 => ?_)
    · have hg10' := hg10; (try simp only [decide_eq_true_eq, decide_eq_false_iff_not, beq_iff_eq, bne_iff_ne, Bool.not_eq_true', Bool.not_eq_false', Bool.not_eq_true, Bool.not_eq_false, beq_eq_false_iff_ne, ne_eq, bne_eq_false_iff_eq, Bool.and_eq_true, Bool.or_eq_true, Bool.not_not] at hg10')
      refine OD.skip (wants_F rfl rfl rfl lk (by first | rfl | assumption)) rfl ?_
      refine OD.skip (wants_F rfl rfl rfl lk (by first | rfl | assumption)) rfl ?_
      refine OD.skip (wants_F rfl rfl rfl lk (by first | rfl | assumption)) rfl ?_
      refine OD.still (wants_plain rfl) rfl (still_pickT rfl ot (by first | rfl | assumption) opd_const) ?_
      refine OD.wk (Wk.as_ (n := 44) (l' := [(14, _)]) (S' := [⟨b1, 30, 3, [_, _, _]⟩]) rfl rfl ⟨lk, trivial⟩) ?_
      refine OD.nil ?_
      refine CD.condT ot (by first | rfl | assumption) ?_
      refine CD.seq ?_
      refine CD.region ?_
      refine OD.still (wants_plain rfl) rfl (still_as rfl opd_const) ?_
      refine OD.wk (Wk.as_ (n := 44) (l' := [(2, _)]) (S' := [⟨b1, 30, 3, [_, _, _]⟩]) rfl rfl ⟨lk, trivial⟩) ?_
      refine OD.nil ?_
      refine CD.ret ?_
      refine ⟨.inr rfl, _, [], List.nil_sublist _, ret_one Tryd.results29 (res_tmp (Nat.le_of_ble_eq_true rfl) lk), ?_⟩
      refine ⟨vi ?_, rfl⟩
      try simp only [str_eq0] at *
      unfold checkV
      simp_all
      try omega
    · have hg10' := hg10; (try simp only [decide_eq_true_eq, decide_eq_false_iff_not, beq_iff_eq, bne_iff_ne, Bool.not_eq_true', Bool.not_eq_false', Bool.not_eq_true, Bool.not_eq_false, beq_eq_false_iff_ne, ne_eq, bne_eq_false_iff_eq, Bool.and_eq_true, Bool.or_eq_true, Bool.not_not] at hg10')
      refine OD.still (wants_T rfl rfl rfl lk (by first | rfl | assumption)) rfl (still_r1 (mk := fun y => Op.fieldAddr 30 y 2) rfl ot (by first | exact fa_ptr (off := 2) Tryd.runUnderlying30 rfl Tryd.sizeOf9 rfl | exact fa_iptr (off := 2) Tryd.runUnderlying30 rfl Tryd.sizeOf9 rfl)) ?_
      refine OD.still (wants_T rfl rfl rfl lk (by first | rfl | assumption)) rfl (still_r1 (mk := Op.load 9) rfl ot (by first | exact ld_blk (k := 0) rfl rfl Tryd.isAgg9 rfl | exact ld_i Tryd.isAgg9 rfl)) ?_
      refine OD.still (wants_T rfl rfl rfl lk (by first | rfl | assumption)) rfl (still_bin rfl ot opd_const bin_sneq) ?_
      refine OD.still (wants_plain rfl) rfl (still_pickF rfl ot (by first | rfl | assumption) ot) ?_
      refine OD.wk (Wk.as_ (n := 44) (l' := [(14, _)]) (S' := [⟨b1, 30, 3, [_, _, _]⟩]) rfl rfl ⟨lk, trivial⟩) ?_
      refine OD.nil ?_
      refine CD.cond ot (fun hc1 => ?_) (fun hc1 => ?_)
      · have hc1' := hc1
        (try simp only [decide_eq_true_eq, decide_eq_false_iff_not, beq_iff_eq, bne_iff_ne, Bool.not_eq_true', Bool.not_eq_false', Bool.not_eq_true, Bool.not_eq_false, beq_eq_false_iff_ne, ne_eq, bne_eq_false_iff_eq, Bool.and_eq_true, Bool.or_eq_true, Bool.not_not, Bool.and_eq_false_iff, Bool.or_eq_false_iff, Int.not_lt, Int.not_le] at hc1')
        refine CD.seq ?_
        refine CD.region ?_
        refine OD.still (wants_plain rfl) rfl (still_as rfl opd_const) ?_
        refine OD.wk (Wk.as_ (n := 44) (l' := [(2, _)]) (S' := [⟨b1, 30, 3, [_, _, _]⟩]) rfl rfl ⟨lk, trivial⟩) ?_
        refine OD.nil ?_
        refine CD.ret ?_
        refine ⟨.inr rfl, _, [], List.nil_sublist _, ret_one Tryd.results29 (res_tmp (Nat.le_of_ble_eq_true rfl) lk), ?_⟩
        refine ⟨vi ?_, rfl⟩
        try simp only [str_eq0] at *
        unfold checkV
        simp_all
        try omega
      · have hc1' := hc1
        (try simp only [decide_eq_true_eq, decide_eq_false_iff_not, beq_iff_eq, bne_iff_ne, Bool.not_eq_true', Bool.not_eq_false', Bool.not_eq_true, Bool.not_eq_false, beq_eq_false_iff_ne, ne_eq, bne_eq_false_iff_eq, Bool.and_eq_true, Bool.or_eq_true, Bool.not_not, Bool.and_eq_false_iff, Bool.or_eq_false_iff, Int.not_lt, Int.not_le] at hc1')
        refine CD.skip ?_
        refine CD.seq ?_
        refine CD.region ?_
        refine OD.still (wants_plain rfl) rfl (still_as rfl opd_const) ?_
        refine OD.wk (Wk.as_ (n := 44) (l' := [(2, _)]) (S' := [⟨b1, 30, 3, [_, _, _]⟩]) rfl rfl ⟨lk, trivial⟩) ?_
        refine OD.nil ?_
        refine CD.ret ?_
        refine ⟨.inr rfl, _, [], List.nil_sublist _, ret_one Tryd.results29 (res_tmp (Nat.le_of_ble_eq_true rfl) lk), ?_⟩
        refine ⟨vi ?_, rfl⟩
        try simp only [str_eq0] at *
        unfold checkV
        simp_all
        try omega
  · have hc0' := hc0
    (try simp only [decide_eq_true_eq, decide_eq_false_iff_not, beq_iff_eq, bne_iff_ne, Bool.not_eq_true', Bool.not_eq_false', Bool.not_eq_true, Bool.not_eq_false, beq_eq_false_iff_ne, ne_eq, bne_eq_false_iff_eq, Bool.and_eq_true, Bool.or_eq_true, Bool.not_not, Bool.and_eq_false_iff, Bool.or_eq_false_iff, Int.not_lt, Int.not_le] at hc0')
    refine CD.seq ?_
    refine CD.region ?_
    refine OD.still (wants_plain rfl) rfl (still_bin rfl ot opd_const bin_eql) ?_
    refine OD.still (wants_plain rfl) rfl (still_as rfl ot) ?_
    refine OD.wk (Wk.as_ (n := 44) (l' := [(1, _), (4, _), (15, _)]) (S' := [⟨b1, 30, 3, [_, _, _]⟩]) rfl rfl ⟨lk, lk, lk, trivial⟩) ?_
    refine OD.nil ?_
    refine CD.cond ot (fun hc2 => ?_) (fun hc2 => ?_)
    · have hc2' := hc2
      (try simp only [decide_eq_true_eq, decide_eq_false_iff_not, beq_iff_eq, bne_iff_ne, Bool.not_eq_true', Bool.not_eq_false', Bool.not_eq_true, Bool.not_eq_false, beq_eq_false_iff_ne, ne_eq, bne_eq_false_iff_eq, Bool.and_eq_true, Bool.or_eq_true, Bool.not_not, Bool.and_eq_false_iff, Bool.or_eq_false_iff, Int.not_lt, Int.not_le] at hc2')
      refine CD.seq ?_
      refine CD.region ?_
      refine OD.still (wants_plain rfl) rfl (still_r1 (mk := fun y => Op.fieldAddr 30 y 1) rfl ot (by first | exact fa_ptr (off := 1) Tryd.runUnderlying30 rfl Tryd.sizeOf3 rfl | exact fa_iptr (off := 1) Tryd.runUnderlying30 rfl Tryd.sizeOf3 rfl)) ?_
      refine OD.still (wants_plain rfl) rfl (still_r1 (mk := Op.load 3) rfl ot (by first | exact ld_blk (k := 0) rfl rfl Tryd.isAgg3 rfl | exact ld_i Tryd.isAgg3 rfl)) ?_
      refine OD.still (wants_plain rfl) rfl (still_bin rfl ot opd_const bin_lss) ?_
      refine OD.still (wants_plain rfl) rfl (still_mv rfl ot) ?_
      refine OD.split (t := 20) lk (fun hg20 => ?_) (fun hg20 => ?_)
      · have hg20' := hg20; (try simp only [decide_eq_true_eq, decide_eq_false_iff_not, beq_iff_eq, bne_iff_ne, Bool.not_eq_true', Bool.not_eq_false', Bool.not_eq_true, Bool.not_eq_false, beq_eq_false_iff_ne, ne_eq, bne_eq_false_iff_eq, Bool.and_eq_true, Bool.or_eq_true, Bool.not_not] at hg20')
        refine OD.skip (wants_F rfl rfl rfl lk (by first | rfl | assumption)) rfl ?_
        refine OD.skip (wants_F rfl rfl rfl lk (by first | rfl | assumption)) rfl ?_
        refine OD.skip (wants_F rfl rfl rfl lk (by first | rfl | assumption)) rfl ?_
        refine OD.still (wants_plain rfl) rfl (still_pickT rfl ot (by first | rfl | assumption) opd_const) ?_
        refine OD.still (wants_plain rfl) rfl (still_mv rfl ot) ?_
        refine OD.skip (wants_F rfl rfl rfl lk (by first | rfl | assumption)) rfl ?_
        refine OD.skip (wants_F rfl rfl rfl lk (by first | rfl | assumption)) rfl ?_
        refine OD.skip (wants_F rfl rfl rfl lk (by first | rfl | assumption)) rfl ?_
        refine OD.still (wants_plain rfl) rfl (still_pickT rfl ot (by first | rfl | assumption) opd_const) ?_
        refine OD.wk (Wk.as_ (n := 44) (l' := [(29, _)]) (S' := [⟨b1, 30, 3, [_, _, _]⟩]) rfl rfl ⟨lk, trivial⟩) ?_
        refine OD.nil ?_
        refine CD.condT ot (by first | rfl | assumption) ?_
        refine CD.seq ?_
        refine CD.region ?_
        refine OD.still (wants_plain rfl) rfl (still_as rfl opd_const) ?_
        refine OD.wk (Wk.as_ (n := 44) (l' := [(2, _)]) (S' := [⟨b1, 30, 3, [_, _, _]⟩]) rfl rfl ⟨lk, trivial⟩) ?_
        refine OD.nil ?_
        refine CD.ret ?_
        refine ⟨.inr rfl, _, [], List.nil_sublist _, ret_one Tryd.results29 (res_tmp (Nat.le_of_ble_eq_true rfl) lk), ?_⟩
        refine ⟨vi ?_, rfl⟩
        try simp only [str_eq0] at *
        unfold checkV
        simp_all
        try omega
      · have hg20' := hg20; (try simp only [decide_eq_true_eq, decide_eq_false_iff_not, beq_iff_eq, bne_iff_ne, Bool.not_eq_true', Bool.not_eq_false', Bool.not_eq_true, Bool.not_eq_false, beq_eq_false_iff_ne, ne_eq, bne_eq_false_iff_eq, Bool.and_eq_true, Bool.or_eq_true, Bool.not_not] at hg20')
        refine OD.still (wants_T rfl rfl rfl lk (by first | rfl | assumption)) rfl (still_r1 (mk := fun y => Op.fieldAddr 30 y 1) rfl ot (by first | exact fa_ptr (off := 1) Tryd.runUnderlying30 rfl Tryd.sizeOf3 rfl | exact fa_iptr (off := 1) Tryd.runUnderlying30 rfl Tryd.sizeOf3 rfl)) ?_
        refine OD.still (wants_T rfl rfl rfl lk (by first | rfl | assumption)) rfl (still_r1 (mk := Op.load 3) rfl ot (by first | exact ld_blk (k := 0) rfl rfl Tryd.isAgg3 rfl | exact ld_i Tryd.isAgg3 rfl)) ?_
        refine OD.still (wants_T rfl rfl rfl lk (by first | rfl | assumption)) rfl (still_bin rfl ot opd_const bin_gtr) ?_
        refine OD.still (wants_plain rfl) rfl (still_pickF rfl ot (by first | rfl | assumption) ot) ?_
        refine OD.still (wants_plain rfl) rfl (still_mv rfl ot) ?_
        refine OD.split (t := 25) lk (fun hg25 => ?_) (fun hg25 => ?_)
        · have hg25' := hg25; (try simp only [decide_eq_true_eq, decide_eq_false_iff_not, beq_iff_eq, bne_iff_ne, Bool.not_eq_true', Bool.not_eq_false', Bool.not_eq_true, Bool.not_eq_false, beq_eq_false_iff_ne, ne_eq, bne_eq_false_iff_eq, Bool.and_eq_true, Bool.or_eq_true, Bool.not_not] at hg25')
          refine OD.skip (wants_F rfl rfl rfl lk (by first | rfl | assumption)) rfl ?_
          refine OD.skip (wants_F rfl rfl rfl lk (by first | rfl | assumption)) rfl ?_
          refine OD.skip (wants_F rfl rfl rfl lk (by first | rfl | assumption)) rfl ?_
          refine OD.still (wants_plain rfl) rfl (still_pickT rfl ot (by first | rfl | assumption) opd_const) ?_
          refine OD.wk (Wk.as_ (n := 44) (l' := [(29, _)]) (S' := [⟨b1, 30, 3, [_, _, _]⟩]) rfl rfl ⟨lk, trivial⟩) ?_
          refine OD.nil ?_
          refine CD.condT ot (by first | rfl | assumption) ?_
          refine CD.seq ?_
          refine CD.region ?_
          refine OD.still (wants_plain rfl) rfl (still_as rfl opd_const) ?_
          refine OD.wk (Wk.as_ (n := 44) (l' := [(2, _)]) (S' := [⟨b1, 30, 3, [_, _, _]⟩]) rfl rfl ⟨lk, trivial⟩) ?_
          refine OD.nil ?_
          refine CD.ret ?_
          refine ⟨.inr rfl, _, [], List.nil_sublist _, ret_one Tryd.results29 (res_tmp (Nat.le_of_ble_eq_true rfl) lk), ?_⟩
          refine ⟨vi ?_, rfl⟩
          try simp only [str_eq0] at *
          unfold checkV
          simp_all
          try omega
        · have hg25' := hg25; (try simp only [decide_eq_true_eq, decide_eq_false_iff_not, beq_iff_eq, bne_iff_ne, Bool.not_eq_true', Bool.not_eq_false', Bool.not_eq_true, Bool.not_eq_false, beq_eq_false_iff_ne, ne_eq, bne_eq_false_iff_eq, Bool.and_eq_true, Bool.or_eq_true, Bool.not_not] at hg25')
          refine OD.still (wants_T rfl rfl rfl lk (by first | rfl | assumption)) rfl (still_r1 (mk := fun y => Op.fieldAddr 30 y 2) rfl ot (by first | exact fa_ptr (off := 2) Tryd.runUnderlying30 rfl Tryd.sizeOf9 rfl | exact fa_iptr (off := 2) Tryd.runUnderlying30 rfl Tryd.sizeOf9 rfl)) ?_
          refine OD.still (wants_T rfl rfl rfl lk (by first | rfl | assumption)) rfl (still_r1 (mk := Op.load 9) rfl ot (by first | exact ld_blk (k := 0) rfl rfl Tryd.isAgg9 rfl | exact ld_i Tryd.isAgg9 rfl)) ?_
          refine OD.still (wants_T rfl rfl rfl lk (by first | rfl | assumption)) rfl (still_bin rfl ot opd_const bin_sneq) ?_
          refine OD.still (wants_plain rfl) rfl (still_pickF rfl ot (by first | rfl | assumption) ot) ?_
          refine OD.wk (Wk.as_ (n := 44) (l' := [(29, _)]) (S' := [⟨b1, 30, 3, [_, _, _]⟩]) rfl rfl ⟨lk, trivial⟩) ?_
          refine OD.nil ?_
          refine CD.cond ot (fun hc3 => ?_) (fun hc3 => ?_)
          · have hc3' := hc3
            (try simp only [decide_eq_true_eq, decide_eq_false_iff_not, beq_iff_eq, bne_iff_ne, Bool.not_eq_true', Bool.not_eq_false', Bool.not_eq_true, Bool.not_eq_false, beq_eq_false_iff_ne, ne_eq, bne_eq_false_iff_eq, Bool.and_eq_true, Bool.or_eq_true, Bool.not_not, Bool.and_eq_false_iff, Bool.or_eq_false_iff, Int.not_lt, Int.not_le] at hc3')
            refine CD.seq ?_
            refine CD.region ?_
            refine OD.still (wants_plain rfl) rfl (still_as rfl opd_const) ?_
            refine OD.wk (Wk.as_ (n := 44) (l' := [(2, _)]) (S' := [⟨b1, 30, 3, [_, _, _]⟩]) rfl rfl ⟨lk, trivial⟩) ?_
            refine OD.nil ?_
            refine CD.ret ?_
            refine ⟨.inr rfl, _, [], List.nil_sublist _, ret_one Tryd.results29 (res_tmp (Nat.le_of_ble_eq_true rfl) lk), ?_⟩
            refine ⟨vi ?_, rfl⟩
            try simp only [str_eq0] at *
            unfold checkV
            simp_all
            try omega
          · have hc3' := hc3
            (try simp only [decide_eq_true_eq, decide_eq_false_iff_not, beq_iff_eq, bne_iff_ne, Bool.not_eq_true', Bool.not_eq_false', Bool.not_eq_true, Bool.not_eq_false, beq_eq_false_iff_ne, ne_eq, bne_eq_false_iff_eq, Bool.and_eq_true, Bool.or_eq_true, Bool.not_not, Bool.and_eq_false_iff, Bool.or_eq_false_iff, Int.not_lt, Int.not_le] at hc3')
            refine CD.skip ?_
            refine CD.seq ?_
            refine CD.region ?_
            refine OD.still (wants_plain rfl) rfl (still_as rfl opd_const) ?_
            refine OD.wk (Wk.as_ (n := 44) (l' := [(2, _)]) (S' := [⟨b1, 30, 3, [_, _, _]⟩]) rfl rfl ⟨lk, trivial⟩) ?_
            refine OD.nil ?_
            refine CD.ret ?_
            refine ⟨.inr rfl, _, [], List.nil_sublist _, ret_one Tryd.results29 (res_tmp (Nat.le_of_ble_eq_true rfl) lk), ?_⟩
            refine ⟨vi ?_, rfl⟩
            try simp only [str_eq0] at *
            unfold checkV
            simp_all
            try omega
    · have hc2' := hc2
      (try simp only [decide_eq_true_eq, decide_eq_false_iff_not, beq_iff_eq, bne_iff_ne, Bool.not_eq_true', Bool.not_eq_false', Bool.not_eq_true, Bool.not_eq_false, beq_eq_false_iff_ne, ne_eq, bne_eq_false_iff_eq, Bool.and_eq_true, Bool.or_eq_true, Bool.not_not, Bool.and_eq_false_iff, Bool.or_eq_false_iff, Int.not_lt, Int.not_le] at hc2')
      refine CD.seq ?_
      refine CD.region ?_
      refine OD.still (wants_plain rfl) rfl (still_bin rfl ot opd_const bin_eql) ?_
      refine OD.still (wants_plain rfl) rfl (still_as rfl ot) ?_
      refine OD.wk (Wk.as_ (n := 44) (l' := [(1, _), (4, _), (30, _)]) (S' := [⟨b1, 30, 3, [_, _, _]⟩]) rfl rfl ⟨lk, lk, lk, trivial⟩) ?_
      refine OD.nil ?_
      refine CD.cond ot (fun hc4 => ?_) (fun hc4 => ?_)
      · have hc4' := hc4
        (try simp only [decide_eq_true_eq, decide_eq_false_iff_not, beq_iff_eq, bne_iff_ne, Bool.not_eq_true', Bool.not_eq_false', Bool.not_eq_true, Bool.not_eq_false, beq_eq_false_iff_ne, ne_eq, bne_eq_false_iff_eq, Bool.and_eq_true, Bool.or_eq_true, Bool.not_not, Bool.and_eq_false_iff, Bool.or_eq_false_iff, Int.not_lt, Int.not_le] at hc4')
        refine CD.seq ?_
        refine CD.region ?_
        refine OD.still (wants_plain rfl) rfl (still_r1 (mk := fun y => Op.fieldAddr 30 y 2) rfl ot (by first | exact fa_ptr (off := 2) Tryd.runUnderlying30 rfl Tryd.sizeOf9 rfl | exact fa_iptr (off := 2) Tryd.runUnderlying30 rfl Tryd.sizeOf9 rfl)) ?_
        refine OD.still (wants_plain rfl) rfl (still_r1 (mk := Op.load 9) rfl ot (by first | exact ld_blk (k := 0) rfl rfl Tryd.isAgg9 rfl | exact ld_i Tryd.isAgg9 rfl)) ?_
        refine OD.still (wants_plain rfl) rfl (still_bin rfl ot opd_const bin_sneq) ?_
        refine OD.wk (Wk.as_ (n := 44) (l' := [(34, _)]) (S' := [⟨b1, 30, 3, [_, _, _]⟩]) rfl rfl ⟨lk, trivial⟩) ?_
        refine OD.nil ?_
        refine CD.cond ot (fun hc5 => ?_) (fun hc5 => ?_)
        · have hc5' := hc5
          (try simp only [decide_eq_true_eq, decide_eq_false_iff_not, beq_iff_eq, bne_iff_ne, Bool.not_eq_true', Bool.not_eq_false', Bool.not_eq_true, Bool.not_eq_false, beq_eq_false_iff_ne, ne_eq, bne_eq_false_iff_eq, Bool.and_eq_true, Bool.or_eq_true, Bool.not_not, Bool.and_eq_false_iff, Bool.or_eq_false_iff, Int.not_lt, Int.not_le] at hc5')
          refine CD.seq ?_
          refine CD.region ?_
          refine OD.still (wants_plain rfl) rfl (still_as rfl opd_const) ?_
          refine OD.wk (Wk.as_ (n := 44) (l' := [(2, _)]) (S' := [⟨b1, 30, 3, [_, _, _]⟩]) rfl rfl ⟨lk, trivial⟩) ?_
          refine OD.nil ?_
          refine CD.ret ?_
          refine ⟨.inr rfl, _, [], List.nil_sublist _, ret_one Tryd.results29 (res_tmp (Nat.le_of_ble_eq_true rfl) lk), ?_⟩
          refine ⟨vi ?_, rfl⟩
          try simp only [str_eq0] at *
          unfold checkV
          simp_all
          try omega
        · have hc5' := hc5
          (try simp only [decide_eq_true_eq, decide_eq_false_iff_not, beq_iff_eq, bne_iff_ne, Bool.not_eq_true', Bool.not_eq_false', Bool.not_eq_true, Bool.not_eq_false, beq_eq_false_iff_ne, ne_eq, bne_eq_false_iff_eq, Bool.and_eq_true, Bool.or_eq_true, Bool.not_not, Bool.and_eq_false_iff, Bool.or_eq_false_iff, Int.not_lt, Int.not_le] at hc5')
          refine CD.skip ?_
          refine CD.seq ?_
          refine CD.region ?_
          refine OD.still (wants_plain rfl) rfl (still_as rfl opd_const) ?_
          refine OD.wk (Wk.as_ (n := 44) (l' := [(2, _)]) (S' := [⟨b1, 30, 3, [_, _, _]⟩]) rfl rfl ⟨lk, trivial⟩) ?_
          refine OD.nil ?_
          refine CD.ret ?_
          refine ⟨.inr rfl, _, [], List.nil_sublist _, ret_one Tryd.results29 (res_tmp (Nat.le_of_ble_eq_true rfl) lk), ?_⟩
          refine ⟨vi ?_, rfl⟩
          try simp only [str_eq0] at *
          unfold checkV
          simp_all
          try omega
      · have hc4' := hc4
        (try simp only [decide_eq_true_eq, decide_eq_false_iff_not, beq_iff_eq, bne_iff_ne, Bool.not_eq_true', Bool.not_eq_false', Bool.not_eq_true, Bool.not_eq_false, beq_eq_false_iff_ne, ne_eq, bne_eq_false_iff_eq, Bool.and_eq_true, Bool.or_eq_true, Bool.not_not, Bool.and_eq_false_iff, Bool.or_eq_false_iff, Int.not_lt, Int.not_le] at hc4')
        refine CD.seq ?_
        refine CD.region ?_
        refine OD.still (wants_plain rfl) rfl (still_bin rfl ot opd_const bin_eql) ?_
        refine OD.still (wants_plain rfl) rfl (still_as rfl ot) ?_
        refine OD.wk (Wk.as_ (n := 44) (l' := [(1, _), (35, _)]) (S' := [⟨b1, 30, 3, [_, _, _]⟩]) rfl rfl ⟨lk, lk, trivial⟩) ?_
        refine OD.nil ?_
        refine CD.cond ot (fun hc6 => ?_) (fun hc6 => ?_)
        · have hc6' := hc6
          (try simp only [decide_eq_true_eq, decide_eq_false_iff_not, beq_iff_eq, bne_iff_ne, Bool.not_eq_true', Bool.not_eq_false', Bool.not_eq_true, Bool.not_eq_false, beq_eq_false_iff_ne, ne_eq, bne_eq_false_iff_eq, Bool.and_eq_true, Bool.or_eq_true, Bool.not_not, Bool.and_eq_false_iff, Bool.or_eq_false_iff, Int.not_lt, Int.not_le] at hc6')
          refine CD.seq ?_
          refine CD.seq ?_
          refine CD.region ?_
          refine OD.still (wants_plain rfl) rfl (still_r1 (mk := fun y => Op.fieldAddr 30 y 1) rfl ot (by first | exact fa_ptr (off := 1) Tryd.runUnderlying30 rfl Tryd.sizeOf3 rfl | exact fa_iptr (off := 1) Tryd.runUnderlying30 rfl Tryd.sizeOf3 rfl)) ?_
          refine OD.still (wants_plain rfl) rfl (still_r1 (mk := Op.load 3) rfl ot (by first | exact ld_blk (k := 0) rfl rfl Tryd.isAgg3 rfl | exact ld_i Tryd.isAgg3 rfl)) ?_
          refine OD.still (wants_plain rfl) rfl (still_bin rfl ot opd_const bin_neq) ?_
          refine OD.wk (Wk.as_ (n := 44) (l' := [(1, _), (39, _)]) (S' := [⟨b1, 30, 3, [_, _, _]⟩]) rfl rfl ⟨lk, lk, trivial⟩) ?_
          refine OD.nil ?_
          refine CD.cond ot (fun hc7 => ?_) (fun hc7 => ?_)
          · have hc7' := hc7
            (try simp only [decide_eq_true_eq, decide_eq_false_iff_not, beq_iff_eq, bne_iff_ne, Bool.not_eq_true', Bool.not_eq_false', Bool.not_eq_true, Bool.not_eq_false, beq_eq_false_iff_ne, ne_eq, bne_eq_false_iff_eq, Bool.and_eq_true, Bool.or_eq_true, Bool.not_not, Bool.and_eq_false_iff, Bool.or_eq_false_iff, Int.not_lt, Int.not_le] at hc7')
            refine CD.seq ?_
            refine CD.region ?_
            refine OD.still (wants_plain rfl) rfl (still_as rfl opd_const) ?_
            refine OD.wk (Wk.as_ (n := 44) (l' := [(2, _)]) (S' := [⟨b1, 30, 3, [_, _, _]⟩]) rfl rfl ⟨lk, trivial⟩) ?_
            refine OD.nil ?_
            refine CD.ret ?_
            refine ⟨.inr rfl, _, [], List.nil_sublist _, ret_one Tryd.results29 (res_tmp (Nat.le_of_ble_eq_true rfl) lk), ?_⟩
            refine ⟨vi ?_, rfl⟩
            try simp only [str_eq0] at *
            unfold checkV
            simp_all
            try omega
          · have hc7' := hc7
            (try simp only [decide_eq_true_eq, decide_eq_false_iff_not, beq_iff_eq, bne_iff_ne, Bool.not_eq_true', Bool.not_eq_false', Bool.not_eq_true, Bool.not_eq_false, beq_eq_false_iff_ne, ne_eq, bne_eq_false_iff_eq, Bool.and_eq_true, Bool.or_eq_true, Bool.not_not, Bool.and_eq_false_iff, Bool.or_eq_false_iff, Int.not_lt, Int.not_le] at hc7')
            refine CD.skip ?_
            refine CD.seq ?_
            refine CD.region ?_
            refine OD.still (wants_plain rfl) rfl (still_r1 (mk := fun y => Op.fieldAddr 30 y 2) rfl ot (by first | exact fa_ptr (off := 2) Tryd.runUnderlying30 rfl Tryd.sizeOf9 rfl | exact fa_iptr (off := 2) Tryd.runUnderlying30 rfl Tryd.sizeOf9 rfl)) ?_
            refine OD.still (wants_plain rfl) rfl (still_r1 (mk := Op.load 9) rfl ot (by first | exact ld_blk (k := 0) rfl rfl Tryd.isAgg9 rfl | exact ld_i Tryd.isAgg9 rfl)) ?_
            refine OD.still (wants_plain rfl) rfl (still_slen rfl rfl ot Tryd.runUnderlying9) ?_
            refine OD.still (wants_plain rfl) rfl (still_bin rfl ot opd_const bin_gtr) ?_
            refine OD.wk (Wk.as_ (n := 44) (l' := [(43, _)]) (S' := [⟨b1, 30, 3, [_, _, _]⟩]) rfl rfl ⟨lk, trivial⟩) ?_
            refine OD.nil ?_
            refine CD.cond ot (fun hc8 => ?_) (fun hc8 => ?_)
            · have hc8' := hc8
              (try simp only [decide_eq_true_eq, decide_eq_false_iff_not, beq_iff_eq, bne_iff_ne, Bool.not_eq_true', Bool.not_eq_false', Bool.not_eq_true, Bool.not_eq_false, beq_eq_false_iff_ne, ne_eq, bne_eq_false_iff_eq, Bool.and_eq_true, Bool.or_eq_true, Bool.not_not, Bool.and_eq_false_iff, Bool.or_eq_false_iff, Int.not_lt, Int.not_le] at hc8')
              refine CD.seq ?_
              refine CD.region ?_
              refine OD.still (wants_plain rfl) rfl (still_as rfl opd_const) ?_
              refine OD.wk (Wk.as_ (n := 44) (l' := [(2, _)]) (S' := [⟨b1, 30, 3, [_, _, _]⟩]) rfl rfl ⟨lk, trivial⟩) ?_
              refine OD.nil ?_
              refine CD.ret ?_
              refine ⟨.inr rfl, _, [], List.nil_sublist _, ret_one Tryd.results29 (res_tmp (Nat.le_of_ble_eq_true rfl) lk), ?_⟩
              refine ⟨vi ?_, rfl⟩
              try simp only [str_eq0] at *
              unfold checkV
              simp_all
              try omega
            · have hc8' := hc8
              (try simp only [decide_eq_true_eq, decide_eq_false_iff_not, beq_iff_eq, bne_iff_ne, Bool.not_eq_true', Bool.not_eq_false', Bool.not_eq_true, Bool.not_eq_false, beq_eq_false_iff_ne, ne_eq, bne_eq_false_iff_eq, Bool.and_eq_true, Bool.or_eq_true, Bool.not_not, Bool.and_eq_false_iff, Bool.or_eq_false_iff, Int.not_lt, Int.not_le] at hc8')
              refine CD.skip ?_
              refine CD.seq ?_
              refine CD.region ?_
              refine OD.still (wants_plain rfl) rfl (still_as rfl opd_const) ?_
              refine OD.wk (Wk.as_ (n := 44) (l' := [(2, _)]) (S' := [⟨b1, 30, 3, [_, _, _]⟩]) rfl rfl ⟨lk, trivial⟩) ?_
              refine OD.nil ?_
              refine CD.ret ?_
              refine ⟨.inr rfl, _, [], List.nil_sublist _, ret_one Tryd.results29 (res_tmp (Nat.le_of_ble_eq_true rfl) lk), ?_⟩
              refine ⟨vi ?_, rfl⟩
              try simp only [str_eq0] at *
              unfold checkV
              simp_all
              try omega
        · have hc6' := hc6
          (try simp only [decide_eq_true_eq, decide_eq_false_iff_not, beq_iff_eq, bne_iff_ne, Bool.not_eq_true', Bool.not_eq_false', Bool.not_eq_true, Bool.not_eq_false, beq_eq_false_iff_ne, ne_eq, bne_eq_false_iff_eq, Bool.and_eq_true, Bool.or_eq_true, Bool.not_not, Bool.and_eq_false_iff, Bool.or_eq_false_iff, Int.not_lt, Int.not_le] at hc6')
          refine CD.seq ?_
          refine CD.region ?_
          refine OD.still (wants_plain rfl) rfl (still_as rfl opd_const) ?_
          refine OD.wk (Wk.as_ (n := 44) (l' := [(2, _)]) (S' := [⟨b1, 30, 3, [_, _, _]⟩]) rfl rfl ⟨lk, trivial⟩) ?_
          refine OD.nil ?_
          refine CD.ret ?_
          refine ⟨.inr rfl, _, [], List.nil_sublist _, ret_one Tryd.results29 (res_tmp (Nat.le_of_ble_eq_true rfl) lk), ?_⟩
          refine ⟨vi ?_, rfl⟩
          try simp only [str_eq0] at *
          unfold checkV
          simp_all
          try omega

theorem cut_vp (s : ByteArray) (m : Nat) (hs : s.size ≤ maxLen) : VP Tryd.prog G 28 [.v (.string s), .v (.int .i64 (m : Int))] (.v (.string (cutF s m))) := by
  refine VC.body Tryd.func28 rfl Tryd.ntmps28 (Nat.le_of_ble_eq_true rfl) fun X0 w0 S00 => ?_
  simp only [maxLen] at hs
  refine CD.seq ?_
  refine CD.region ?_
  refine OD.still (wants_plain rfl) rfl (still_as rfl opd_const) ?_
  refine OD.wk (Wk.as_ (n := 11) (l' := [(0, _), (1, _)]) (S' := []) rfl rfl ⟨lk, lk, trivial⟩) ?_
  refine OD.nil ?_
  refine CD.seq ?_
  refine CD.region ?_
  refine OD.still (wants_plain rfl) rfl (still_mv rfl ot) ?_
  refine OD.still (wants_plain rfl) rfl (still_mv rfl ot) ?_
  refine OD.still (wants_plain rfl) rfl (still_slen rfl rfl ot Tryd.runUnderlying9) ?_
  refine OD.still (wants_plain rfl) rfl (still_mv rfl ot) ?_
  refine OD.still (wants_plain rfl) rfl (still_minmax (r := .int .i64 ((min s.size m : Nat) : Int)) rfl ot ot (fun cs w => (mm_min cs w).trans (by split <;> (congr 3; omega)))) ?_
  refine OD.still (wants_plain rfl) rfl (still_rs (l := 0) rfl ot trivial ⟨_, ot⟩ (by first | exact sl_str (fun _ => rfl) (fun h => by cases h) Tryd.runUnderlying9 (by omega) (by omega))) ?_
  refine OD.still (wants_plain rfl) rfl (still_as rfl ot) ?_
  refine OD.wk (Wk.as_ (n := 11) (l' := [(4, _)]) (S' := []) rfl rfl ⟨lk, trivial⟩) ?_
  refine OD.nil ?_
  refine CD.ret ?_
  refine ⟨.inr rfl, _, [], List.nil_sublist _, ret_one Tryd.results28 (res_tmp (Nat.le_of_ble_eq_true rfl) lk), ?_⟩
  exact ⟨by first | rfl | (simp [*]; done), rfl⟩

theorem places30_Vl1 : ∀ w, ((#[{ name := "Kind", type := 3, offset := 0, embedded := false, tag := "", pkgPath := "", byteOffset := 0 }, { name := "Int", type := 3, offset := 1, embedded := false, tag := "", pkgPath := "", byteOffset := 8 }, { name := "Text", type := 9, offset := 2, embedded := false, tag := "", pkgPath := "", byteOffset := 16 }] : Array Field).mapM fun f => do pure (f.offset, ← sizeOf f.type) : Sem (Array (Nat × Nat))).run Tryd.prog w = .ok #[(0, 1), (1, 1), (2, 1)] w := fun w => by simp [Tryd.sizeOf3, Tryd.sizeOf9]

theorem value_vp (r : Vl) (h : r.Ok) : VP Tryd.prog G 27 [.agg (cV r)] (.agg (cV (valueF r))) := by
  refine VC.body Tryd.func27 rfl Tryd.ntmps27 (Nat.le_of_ble_eq_true rfl) fun X0 w0 S00 => ?_
  unfold cV
  refine CD.seq ?_
  refine CD.region ?_
  refine OD.box (ds := [_, _, _]) (wants_plain rfl) rfl rfl ot rfl rfl (fun b1 => ?_)
  refine OD.alloc (ds := [_, _, _]) (wants_plain rfl) rfl rfl Tryd.zeroValue30 rfl (fun b2 => ?_)
  refine OD.wk (Wk.as_ (n := 29) (l' := [(1, _), (2, _)]) (S' := [⟨b2, 30, 3, [_, _, _]⟩, ⟨b1, 65, 3, [_, _, _]⟩]) rfl rfl ⟨lk, lk, trivial⟩) ?_
  refine OD.nil ?_
  refine CD.seq ?_
  refine CD.seq ?_
  refine CD.region ?_
  refine OD.still (wants_plain rfl) rfl (still_r1 (mk := fun y => Op.fieldAddr 65 y 0) rfl ot (by first | exact fa_ptr (off := 0) Tryd.runUnderlying65 rfl Tryd.sizeOf3 rfl | exact fa_iptr (off := 0) Tryd.runUnderlying65 rfl Tryd.sizeOf3 rfl)) ?_
  refine OD.still (wants_plain rfl) rfl (still_r1 (mk := Op.load 3) rfl ot (by first | exact ld_blk (k := 1) rfl rfl Tryd.isAgg3 rfl | exact ld_i Tryd.isAgg3 rfl)) ?_
  refine OD.callP (wants_plain rfl) rfl rfl rfl Tryd.call15 (picked_vp G r.k 4 h.k1 h.k2 (by decide)) ⟨ot, opd_const, trivial⟩ ?_
  refine OD.still (wants_plain rfl) rfl (still_as rfl ot) ?_
  refine OD.wk (Wk.as_ (n := 29) (l' := [(1, _), (2, _), (3, _)]) (S' := [⟨b2, 30, 3, [_, _, _]⟩, ⟨b1, 65, 3, [_, _, _]⟩]) rfl rfl ⟨lk, lk, lk, trivial⟩) ?_
  refine OD.nil ?_
  refine CD.seq ?_
  refine CD.region ?_
  refine OD.still (wants_plain rfl) rfl (still_mv rfl ot) ?_
  refine OD.wk (Wk.as_ (n := 29) (l' := [(1, _), (2, _), (3, _), (7, _)]) (S' := [⟨b2, 30, 3, [_, _, _]⟩, ⟨b1, 65, 3, [_, _, _]⟩]) rfl rfl ⟨lk, lk, lk, lk, trivial⟩) ?_
  refine OD.nil ?_
  refine CD.block ?_
  refine CD.seq ?_
  refine CD.region ?_
  refine OD.still (wants_plain rfl) rfl (still_bin rfl ot opd_const bin_eql) ?_
  refine OD.still (wants_plain rfl) rfl (still_as rfl ot) ?_
  refine OD.wk (Wk.as_ (n := 29) (l' := [(1, _), (2, _), (3, _), (7, _), (8, _)]) (S' := [⟨b2, 30, 3, [_, _, _]⟩, ⟨b1, 65, 3, [_, _, _]⟩]) rfl rfl ⟨lk, lk, lk, lk, lk, trivial⟩) ?_
  refine OD.nil ?_
  refine CD.cond ot (fun hc0 => ?_) (fun hc0 => ?_)
  · have hc0' := hc0
    (try simp only [decide_eq_true_eq, decide_eq_false_iff_not, beq_iff_eq, bne_iff_ne, Bool.not_eq_true', Bool.not_eq_false', Bool.not_eq_true, Bool.not_eq_false, beq_eq_false_iff_ne, ne_eq, bne_eq_false_iff_eq, Bool.and_eq_true, Bool.or_eq_true, Bool.not_not, Bool.and_eq_false_iff, Bool.or_eq_false_iff, Int.not_lt, Int.not_le] at hc0')
    refine CD.seq ?_
    refine CD.region ?_
    refine OD.still (wants_plain rfl) rfl (still_mv rfl ot) ?_
    refine OD.still (wants_plain rfl) rfl (still_r1 (mk := fun y => Op.fieldAddr 65 y 1) rfl ot (by first | exact fa_ptr (off := 1) Tryd.runUnderlying65 rfl Tryd.sizeOf3 rfl | exact fa_iptr (off := 1) Tryd.runUnderlying65 rfl Tryd.sizeOf3 rfl)) ?_
    refine OD.still (wants_plain rfl) rfl (still_r1 (mk := Op.load 3) rfl ot (by first | exact ld_blk (k := 1) rfl rfl Tryd.isAgg3 rfl | exact ld_i Tryd.isAgg3 rfl)) ?_
    refine OD.callP (wants_plain rfl) rfl rfl rfl Tryd.call15 (picked_vp G r.n 2 h.n1 h.n2 (by decide)) ⟨ot, opd_const, trivial⟩ ?_
    refine OD.still (wants_plain rfl) rfl (still_bld (pl := [(0, _), (1, _)]) (ds := [_, _, _]) rfl Tryd.zeroValue30 Tryd.runUnderlying30 places30_Vl1 ⟨rfl, ot, rfl, ot, trivial⟩ rfl rfl) ?_
    refine OD.store (k := 0) (cs' := [_, _, _]) (wants_plain rfl) rfl rfl ot rfl rfl ot rfl rfl Tryd.sizeOf30 rfl rfl rfl ?_
    refine OD.wk (Wk.as_ (n := 29) (l' := [(2, _)]) (S' := [⟨b2, 30, 3, [_, _, _]⟩, ⟨b1, 65, 3, [_, _, _]⟩]) rfl rfl ⟨lk, trivial⟩) ?_
    refine OD.nil ?_
    refine CD.ret ?_
    refine ⟨.inr rfl, _, [], List.nil_sublist _, ret_one Tryd.results27 (res_cells (k := 0) (ds := [_, _, _]) (Nat.le_of_ble_eq_true rfl) lk rfl rfl Tryd.isAgg30 Tryd.sizeOf30 rfl rfl), ?_⟩
    refine ⟨?_, rfl⟩
    unfold valueF noVl
    simp_all
  · have hc0' := hc0
    (try simp only [decide_eq_true_eq, decide_eq_false_iff_not, beq_iff_eq, bne_iff_ne, Bool.not_eq_true', Bool.not_eq_false', Bool.not_eq_true, Bool.not_eq_false, beq_eq_false_iff_ne, ne_eq, bne_eq_false_iff_eq, Bool.and_eq_true, Bool.or_eq_true, Bool.not_not, Bool.and_eq_false_iff, Bool.or_eq_false_iff, Int.not_lt, Int.not_le] at hc0')
    refine CD.seq ?_
    refine CD.region ?_
    refine OD.still (wants_plain rfl) rfl (still_bin rfl ot opd_const bin_eql) ?_
    refine OD.still (wants_plain rfl) rfl (still_as rfl ot) ?_
    refine OD.wk (Wk.as_ (n := 29) (l' := [(1, _), (2, _), (3, _), (7, _), (15, _)]) (S' := [⟨b2, 30, 3, [_, _, _]⟩, ⟨b1, 65, 3, [_, _, _]⟩]) rfl rfl ⟨lk, lk, lk, lk, lk, trivial⟩) ?_
    refine OD.nil ?_
    refine CD.cond ot (fun hc1 => ?_) (fun hc1 => ?_)
    · have hc1' := hc1
      (try simp only [decide_eq_true_eq, decide_eq_false_iff_not, beq_iff_eq, bne_iff_ne, Bool.not_eq_true', Bool.not_eq_false', Bool.not_eq_true, Bool.not_eq_false, beq_eq_false_iff_ne, ne_eq, bne_eq_false_iff_eq, Bool.and_eq_true, Bool.or_eq_true, Bool.not_not, Bool.and_eq_false_iff, Bool.or_eq_false_iff, Int.not_lt, Int.not_le] at hc1')
      refine CD.seq ?_
      refine CD.region ?_
      refine OD.still (wants_plain rfl) rfl (still_mv rfl ot) ?_
      refine OD.still (wants_plain rfl) rfl (still_r1 (mk := fun y => Op.fieldAddr 65 y 1) rfl ot (by first | exact fa_ptr (off := 1) Tryd.runUnderlying65 rfl Tryd.sizeOf3 rfl | exact fa_iptr (off := 1) Tryd.runUnderlying65 rfl Tryd.sizeOf3 rfl)) ?_
      refine OD.still (wants_plain rfl) rfl (still_r1 (mk := Op.load 3) rfl ot (by first | exact ld_blk (k := 1) rfl rfl Tryd.isAgg3 rfl | exact ld_i Tryd.isAgg3 rfl)) ?_
      refine OD.still (wants_plain rfl) rfl (still_bld (pl := [(0, _), (1, _)]) (ds := [_, _, _]) rfl Tryd.zeroValue30 Tryd.runUnderlying30 places30_Vl1 ⟨rfl, ot, rfl, ot, trivial⟩ rfl rfl) ?_
      refine OD.store (k := 0) (cs' := [_, _, _]) (wants_plain rfl) rfl rfl ot rfl rfl ot rfl rfl Tryd.sizeOf30 rfl rfl rfl ?_
      refine OD.wk (Wk.as_ (n := 29) (l' := [(2, _)]) (S' := [⟨b2, 30, 3, [_, _, _]⟩, ⟨b1, 65, 3, [_, _, _]⟩]) rfl rfl ⟨lk, trivial⟩) ?_
      refine OD.nil ?_
      refine CD.ret ?_
      refine ⟨.inr rfl, _, [], List.nil_sublist _, ret_one Tryd.results27 (res_cells (k := 0) (ds := [_, _, _]) (Nat.le_of_ble_eq_true rfl) lk rfl rfl Tryd.isAgg30 Tryd.sizeOf30 rfl rfl), ?_⟩
      refine ⟨?_, rfl⟩
      unfold valueF noVl
      simp_all
    · have hc1' := hc1
      (try simp only [decide_eq_true_eq, decide_eq_false_iff_not, beq_iff_eq, bne_iff_ne, Bool.not_eq_true', Bool.not_eq_false', Bool.not_eq_true, Bool.not_eq_false, beq_eq_false_iff_ne, ne_eq, bne_eq_false_iff_eq, Bool.and_eq_true, Bool.or_eq_true, Bool.not_not, Bool.and_eq_false_iff, Bool.or_eq_false_iff, Int.not_lt, Int.not_le] at hc1')
      refine CD.seq ?_
      refine CD.region ?_
      refine OD.still (wants_plain rfl) rfl (still_bin rfl ot opd_const bin_eql) ?_
      refine OD.still (wants_plain rfl) rfl (still_as rfl ot) ?_
      refine OD.wk (Wk.as_ (n := 29) (l' := [(1, _), (2, _), (3, _), (21, _)]) (S' := [⟨b2, 30, 3, [_, _, _]⟩, ⟨b1, 65, 3, [_, _, _]⟩]) rfl rfl ⟨lk, lk, lk, lk, trivial⟩) ?_
      refine OD.nil ?_
      refine CD.cond ot (fun hc2 => ?_) (fun hc2 => ?_)
      · have hc2' := hc2
        (try simp only [decide_eq_true_eq, decide_eq_false_iff_not, beq_iff_eq, bne_iff_ne, Bool.not_eq_true', Bool.not_eq_false', Bool.not_eq_true, Bool.not_eq_false, beq_eq_false_iff_ne, ne_eq, bne_eq_false_iff_eq, Bool.and_eq_true, Bool.or_eq_true, Bool.not_not, Bool.and_eq_false_iff, Bool.or_eq_false_iff, Int.not_lt, Int.not_le] at hc2')
        refine CD.seq ?_
        refine CD.region ?_
        refine OD.still (wants_plain rfl) rfl (still_mv rfl ot) ?_
        refine OD.still (wants_plain rfl) rfl (still_r1 (mk := fun y => Op.fieldAddr 65 y 2) rfl ot (by first | exact fa_ptr (off := 2) Tryd.runUnderlying65 rfl Tryd.sizeOf9 rfl | exact fa_iptr (off := 2) Tryd.runUnderlying65 rfl Tryd.sizeOf9 rfl)) ?_
        refine OD.still (wants_plain rfl) rfl (still_r1 (mk := Op.load 9) rfl ot (by first | exact ld_blk (k := 1) rfl rfl Tryd.isAgg9 rfl | exact ld_i Tryd.isAgg9 rfl)) ?_
        refine OD.callP (wants_plain rfl) rfl rfl rfl Tryd.call28 (cut_vp r.s 10 h.s) ⟨ot, opd_const, trivial⟩ ?_
        refine OD.still (wants_plain rfl) rfl (still_bld (pl := [(0, _), (2, _)]) (ds := [_, _, _]) rfl Tryd.zeroValue30 Tryd.runUnderlying30 places30_Vl1 ⟨rfl, ot, rfl, ot, trivial⟩ rfl rfl) ?_
        refine OD.store (k := 0) (cs' := [_, _, _]) (wants_plain rfl) rfl rfl ot rfl rfl ot rfl rfl Tryd.sizeOf30 rfl rfl rfl ?_
        refine OD.wk (Wk.as_ (n := 29) (l' := [(2, _)]) (S' := [⟨b2, 30, 3, [_, _, _]⟩, ⟨b1, 65, 3, [_, _, _]⟩]) rfl rfl ⟨lk, trivial⟩) ?_
        refine OD.nil ?_
        refine CD.ret ?_
        refine ⟨.inr rfl, _, [], List.nil_sublist _, ret_one Tryd.results27 (res_cells (k := 0) (ds := [_, _, _]) (Nat.le_of_ble_eq_true rfl) lk rfl rfl Tryd.isAgg30 Tryd.sizeOf30 rfl rfl), ?_⟩
        refine ⟨?_, rfl⟩
        unfold valueF noVl
        simp_all
      · have hc2' := hc2
        (try simp only [decide_eq_true_eq, decide_eq_false_iff_not, beq_iff_eq, bne_iff_ne, Bool.not_eq_true', Bool.not_eq_false', Bool.not_eq_true, Bool.not_eq_false, beq_eq_false_iff_ne, ne_eq, bne_eq_false_iff_eq, Bool.and_eq_true, Bool.or_eq_true, Bool.not_not, Bool.and_eq_false_iff, Bool.or_eq_false_iff, Int.not_lt, Int.not_le] at hc2')
        refine CD.skip ?_
        refine CD.seq ?_
        refine CD.region ?_
        refine OD.still (wants_plain rfl) rfl (still_bld (pl := []) (ds := [_, _, _]) rfl Tryd.zeroValue30 Tryd.runUnderlying30 places30_Vl1 trivial rfl rfl) ?_
        refine OD.store (k := 0) (cs' := [_, _, _]) (wants_plain rfl) rfl rfl ot rfl rfl ot rfl rfl Tryd.sizeOf30 rfl rfl rfl ?_
        refine OD.wk (Wk.as_ (n := 29) (l' := [(2, _)]) (S' := [⟨b2, 30, 3, [_, _, _]⟩, ⟨b1, 65, 3, [_, _, _]⟩]) rfl rfl ⟨lk, trivial⟩) ?_
        refine OD.nil ?_
        refine CD.ret ?_
        refine ⟨.inr rfl, _, [], List.nil_sublist _, ret_one Tryd.results27 (res_cells (k := 0) (ds := [_, _, _]) (Nat.le_of_ble_eq_true rfl) lk rfl rfl Tryd.isAgg30 Tryd.sizeOf30 rfl rfl), ?_⟩
        refine ⟨?_, rfl⟩
        unfold valueF noVl
        simp_all

end Go.Proofs.YtoemmoeedhllfaaDoor.Vl
