/-
  What the proof of RowNull leans on, part 3 of 3: walks of the program's functions at the level of values, and plain facts of what they compute.
-/
import Derived.Test.YtoemmoeedhllfaaDoorPRowNull2
namespace Go.Proofs.YtoemmoeedhllfaaDoor.Pc
open Go.RowKit V Pk Vl Go.Proofs.YtoemmoeedhllfaaDoor.Nm
set_option linter.unusedVariables false
set_option linter.unusedSimpArgs false

variable {G : List (Nat × List Value)}
theorem name_t : nameF ⟨#[116]⟩ = 0 := small_name (l := [116]) (by decide) (by decide) (fun c hc => by simp only [List.mem_singleton] at hc; subst hc; decide)
theorem colsA_good : ∀ (l pre : List ColL), colsA pre l = 0 → ∀ c ∈ l, 1 ≤ c.k ∧ c.k ≤ 3
  | [], _, _, c, hc => by cases hc
  | a :: l, pre, h, c, hc => by
    have h : (if colF pre a ≠ 0 then colF pre a else colsA (pre ++ [a]) l) = 0 := h
    by_cases h0 : colF pre a = 0
    · rw [if_neg (by simp [h0])] at h
      rcases List.mem_cons.1 hc with rfl | hc
      · unfold colF at h0
        by_cases h1 : nameF c.n = 0
        · rw [if_neg (by simp [h1])] at h0
          by_cases h2 : c.k < 1 ∨ c.k > 3
          · rw [if_pos h2] at h0; cases h0
          · omega
        · rw [if_pos h1] at h0; exact absurd h0 h1
      · exact colsA_good l _ h c hc
    · rw [if_pos h0] at h; exact absurd h h0
theorem cols_good {l : List ColL} (h : colsF l = 0) : (1 ≤ l.length ∧ l.length ≤ 6) ∧ ∀ c ∈ l, 1 ≤ c.k ∧ c.k ≤ 3 := by
  unfold colsF at h
  split at h
  · cases h
  · exact ⟨by omega, colsA_good l [] h⟩

theorem places85_Pc4 : ∀ w, ((#[{ name := "Kind", type := 3, offset := 0, embedded := false, tag := "", pkgPath := "", byteOffset := 0 }, { name := "Table", type := 9, offset := 1, embedded := false, tag := "", pkgPath := "", byteOffset := 8 }, { name := "Cols", type := 56, offset := 2, embedded := false, tag := "", pkgPath := "", byteOffset := 24 }, { name := "Row", type := 23, offset := 3, embedded := false, tag := "", pkgPath := "", byteOffset := 48 }, { name := "Names", type := 41, offset := 4, embedded := false, tag := "", pkgPath := "", byteOffset := 72 }, { name := "Count", type := 4, offset := 5, embedded := false, tag := "", pkgPath := "", byteOffset := 96 }, { name := "Where", type := 48, offset := 6, embedded := false, tag := "", pkgPath := "", byteOffset := 104 }, { name := "Order", type := 9, offset := 7, embedded := false, tag := "", pkgPath := "", byteOffset := 128 }, { name := "Down", type := 4, offset := 8, embedded := false, tag := "", pkgPath := "", byteOffset := 144 }, { name := "Limit", type := 3, offset := 9, embedded := false, tag := "", pkgPath := "", byteOffset := 152 }, { name := "Set", type := 9, offset := 10, embedded := false, tag := "", pkgPath := "", byteOffset := 160 }, { name := "To", type := 48, offset := 11, embedded := false, tag := "", pkgPath := "", byteOffset := 176 }] : Array Field).mapM fun f => do pure (f.offset, ← sizeOf f.type) : Sem (Array (Nat × Nat))).run Tryd.prog w = .ok #[(0, 1), (1, 1), (2, 1), (3, 1), (4, 1), (5, 1), (6, 1), (7, 1), (8, 1), (9, 1), (10, 1), (11, 1)] w := fun w => by simp [Tryd.sizeOf23, Tryd.sizeOf3, Tryd.sizeOf4, Tryd.sizeOf41, Tryd.sizeOf48, Tryd.sizeOf56, Tryd.sizeOf9]

set_option maxHeartbeats 4000000 in
set_option maxRecDepth 100000 in
theorem check_vp (hm : (1, marksC) ∈ G) (hw : (0, wordsC) ∈ G) (l : List ColL) (hl : l.length ≤ maxLen) (hok : ∀ c ∈ l, c.n.size ≤ maxLen) : VP Tryd.prog G 57 [.agg (stD l)] (.v (.int .i64 (colsF l))) := by
  refine VC.body Tryd.func57 rfl Tryd.ntmps57 (Nat.le_of_ble_eq_true rfl) fun X0 w0 S00 => ?_
  have hmx : maxLen = 9223372036854775807 := rfl
  have hba := bare_vp (G := G) l
  unfold stD at hba
  unfold stD
  have hnv := name_vp hm hw ⟨#[116]⟩ (Nat.le_trans (show (⟨#[116]⟩ : ByteArray).size ≤ 1 from Nat.le_refl _) (by omega))
  rw [name_t] at hnv
  refine CD.seq ?_
  refine CD.region ?_
  refine OD.box (ds := [_, _, _, _, _, _, _, _, _, _, _, _]) (wants_plain rfl) rfl rfl ot rfl rfl (fun b1 => ?_)
  refine OD.still (wants_plain rfl) rfl (still_as rfl opd_const) ?_
  refine OD.wk (Wk.as_ (n := 102) (l' := [(1, _)]) (S' := [⟨b1, 85, 12, [_, _, _, _, _, _, _, _, _, _, _, _]⟩]) rfl rfl ⟨lk, trivial⟩) ?_
  refine OD.nil ?_
  refine CD.seq ?_
  refine CD.region ?_
  refine OD.still (wants_plain rfl) rfl (still_r1 (mk := fun y => Op.fieldAddr 85 y 0) rfl ot (by first | exact fa_ptr (off := 0) Tryd.runUnderlying85 rfl Tryd.sizeOf3 rfl | exact fa_iptr (off := 0) Tryd.runUnderlying85 rfl Tryd.sizeOf3 rfl)) ?_
  refine OD.still (wants_plain rfl) rfl (still_r1 (mk := Op.load 3) rfl ot (by first | exact ld_blk (k := 0) rfl rfl Tryd.isAgg3 rfl | exact ld_i Tryd.isAgg3 rfl)) ?_
  refine OD.still (wants_plain rfl) rfl (still_bld (pl := [(0, _), (9, _)]) (ds := [_, _, _, _, _, _, _, _, _, _, _, _]) rfl Tryd.zeroValue85 Tryd.runUnderlying85 places85_Pc4 ⟨rfl, ot, rfl, opd_const, trivial⟩ rfl rfl) ?_
  refine OD.alloc (ds := [_, _, _, _, _, _, _, _, _, _, _, _]) (wants_plain rfl) rfl rfl Tryd.zeroValue85 rfl (fun b3 => ?_)
  refine OD.store (k := 0) (cs' := [_, _, _, _, _, _, _, _, _, _, _, _]) (wants_plain rfl) rfl rfl ot rfl rfl ot rfl rfl Tryd.sizeOf85 rfl rfl rfl ?_
  refine OD.wk (Wk.as_ (n := 102) (l' := [(1, _), (3, _)]) (S' := [⟨b3, 85, 12, [_, _, _, _, _, _, _, _, _, _, _, _]⟩, ⟨b1, 85, 12, [_, _, _, _, _, _, _, _, _, _, _, _]⟩]) rfl rfl ⟨lk, lk, trivial⟩) ?_
  refine OD.nil ?_
  refine CD.seq ?_
  refine CD.seq ?_
  refine CD.region ?_
  refine OD.still (wants_plain rfl) rfl (still_r1 (mk := fun y => Op.fieldAddr 85 y 0) rfl ot (by first | exact fa_ptr (off := 0) Tryd.runUnderlying85 rfl Tryd.sizeOf3 rfl | exact fa_iptr (off := 0) Tryd.runUnderlying85 rfl Tryd.sizeOf3 rfl)) ?_
  refine OD.still (wants_plain rfl) rfl (still_r1 (mk := Op.load 3) rfl ot (by first | exact ld_blk (k := 1) rfl rfl Tryd.isAgg3 rfl | exact ld_i Tryd.isAgg3 rfl)) ?_
  refine OD.still (wants_plain rfl) rfl (still_bin rfl ot opd_const bin_lss) ?_
  refine OD.wk (Wk.as_ (n := 102) (l' := [(1, _), (3, _), (11, _)]) (S' := [⟨b3, 85, 12, [_, _, _, _, _, _, _, _, _, _, _, _]⟩, ⟨b1, 85, 12, [_, _, _, _, _, _, _, _, _, _, _, _]⟩]) rfl rfl ⟨lk, lk, lk, trivial⟩) ?_
  refine OD.nil ?_
  refine CD.cond ot (fun hc0 => ?_) (fun hc0 => ?_)
  · have hc0' := hc0
    (try simp only [decide_eq_true_eq, decide_eq_false_iff_not, beq_iff_eq, bne_iff_ne, Bool.not_eq_true', Bool.not_eq_false', Bool.not_eq_true, Bool.not_eq_false, beq_eq_false_iff_ne, ne_eq, bne_eq_false_iff_eq, Bool.and_eq_true, Bool.or_eq_true, Bool.not_not, Bool.and_eq_false_iff, Bool.or_eq_false_iff, Int.not_lt, Int.not_le] at hc0')
    refine CD.seq ?_
    refine CD.region ?_
    refine OD.still (wants_plain rfl) rfl (still_r1 (mk := fun y => Op.fieldAddr 85 y 1) rfl ot (by first | exact fa_ptr (off := 1) Tryd.runUnderlying85 rfl Tryd.sizeOf9 rfl | exact fa_iptr (off := 1) Tryd.runUnderlying85 rfl Tryd.sizeOf9 rfl)) ?_
    refine OD.still (wants_plain rfl) rfl (still_r1 (mk := Op.load 9) rfl ot (by first | exact ld_blk (k := 1) rfl rfl Tryd.isAgg9 rfl | exact ld_i Tryd.isAgg9 rfl)) ?_
    refine OD.still (wants_plain rfl) rfl (still_r1 (mk := fun y => Op.fieldAddr 85 y 1) rfl ot (by first | exact fa_ptr (off := 1) Tryd.runUnderlying85 rfl Tryd.sizeOf9 rfl | exact fa_iptr (off := 1) Tryd.runUnderlying85 rfl Tryd.sizeOf9 rfl)) ?_
    refine OD.store (k := 0) (cs' := [_, _, _, _, _, _, _, _, _, _, _, _]) (wants_plain rfl) rfl rfl ot rfl rfl ot rfl rfl Tryd.sizeOf9 rfl rfl rfl ?_
    refine OD.wk (Wk.as_ (n := 102) (l' := [(1, _), (3, _)]) (S' := [⟨b3, 85, 12, [_, _, _, _, _, _, _, _, _, _, _, _]⟩, ⟨b1, 85, 12, [_, _, _, _, _, _, _, _, _, _, _, _]⟩]) rfl rfl ⟨lk, lk, trivial⟩) ?_
    refine OD.nil ?_
    refine CD.seq ?_
    refine CD.region ?_
    refine OD.still (wants_plain rfl) rfl (still_r1 (mk := fun y => Op.fieldAddr 85 y 1) rfl ot (by first | exact fa_ptr (off := 1) Tryd.runUnderlying85 rfl Tryd.sizeOf9 rfl | exact fa_iptr (off := 1) Tryd.runUnderlying85 rfl Tryd.sizeOf9 rfl)) ?_
    refine OD.still (wants_plain rfl) rfl (still_r1 (mk := Op.load 9) rfl ot (by first | exact ld_blk (k := 1) rfl rfl Tryd.isAgg9 rfl | exact ld_i Tryd.isAgg9 rfl)) ?_
    refine OD.callP (wants_plain rfl) rfl rfl rfl Tryd.call19 (hnv) ⟨ot, trivial⟩ ?_
    refine OD.still (wants_plain rfl) rfl (still_as rfl ot) ?_
    refine OD.wk (Wk.as_ (n := 102) (l' := [(1, _), (3, _), (4, _)]) (S' := [⟨b3, 85, 12, [_, _, _, _, _, _, _, _, _, _, _, _]⟩, ⟨b1, 85, 12, [_, _, _, _, _, _, _, _, _, _, _, _]⟩]) rfl rfl ⟨lk, lk, lk, trivial⟩) ?_
    refine OD.nil ?_
    refine CD.seq ?_
    refine CD.region ?_
    refine OD.still (wants_plain rfl) rfl (still_mv rfl ot) ?_
    refine OD.still (wants_plain rfl) rfl (still_bin rfl ot opd_const bin_neq) ?_
    refine OD.wk (Wk.as_ (n := 102) (l' := [(1, _), (3, _), (4, _), (19, _)]) (S' := [⟨b3, 85, 12, [_, _, _, _, _, _, _, _, _, _, _, _]⟩, ⟨b1, 85, 12, [_, _, _, _, _, _, _, _, _, _, _, _]⟩]) rfl rfl ⟨lk, lk, lk, lk, trivial⟩) ?_
    refine OD.nil ?_
    refine CD.cond ot (fun hc1 => ?_) (fun hc1 => ?_)
    · exact absurd hc1 (by simp at hc1)
    · have hc1' := hc1
      (try simp only [decide_eq_true_eq, decide_eq_false_iff_not, beq_iff_eq, bne_iff_ne, Bool.not_eq_true', Bool.not_eq_false', Bool.not_eq_true, Bool.not_eq_false, beq_eq_false_iff_ne, ne_eq, bne_eq_false_iff_eq, Bool.and_eq_true, Bool.or_eq_true, Bool.not_not, Bool.and_eq_false_iff, Bool.or_eq_false_iff, Int.not_lt, Int.not_le] at hc1')
      refine CD.skip ?_
      refine CD.seq ?_
      refine CD.region ?_
      refine OD.still (wants_plain rfl) rfl (still_as rfl opd_const) ?_
      refine OD.wk (Wk.as_ (n := 102) (l' := [(1, _), (3, _), (5, _)]) (S' := [⟨b3, 85, 12, [_, _, _, _, _, _, _, _, _, _, _, _]⟩, ⟨b1, 85, 12, [_, _, _, _, _, _, _, _, _, _, _, _]⟩]) rfl rfl ⟨lk, lk, lk, trivial⟩) ?_
      refine OD.nil ?_
      refine CD.seq ?_
      refine CD.seq ?_
      refine CD.region ?_
      refine OD.still (wants_plain rfl) rfl (still_r1 (mk := fun y => Op.fieldAddr 85 y 0) rfl ot (by first | exact fa_ptr (off := 0) Tryd.runUnderlying85 rfl Tryd.sizeOf3 rfl | exact fa_iptr (off := 0) Tryd.runUnderlying85 rfl Tryd.sizeOf3 rfl)) ?_
      refine OD.still (wants_plain rfl) rfl (still_r1 (mk := Op.load 3) rfl ot (by first | exact ld_blk (k := 1) rfl rfl Tryd.isAgg3 rfl | exact ld_i Tryd.isAgg3 rfl)) ?_
      refine OD.wk (Wk.as_ (n := 102) (l' := [(1, _), (3, _), (5, _), (22, _)]) (S' := [⟨b3, 85, 12, [_, _, _, _, _, _, _, _, _, _, _, _]⟩, ⟨b1, 85, 12, [_, _, _, _, _, _, _, _, _, _, _, _]⟩]) rfl rfl ⟨lk, lk, lk, lk, trivial⟩) ?_
      refine OD.nil ?_
      refine CD.block ?_
      refine CD.seq ?_
      refine CD.region ?_
      refine OD.still (wants_plain rfl) rfl (still_bin rfl ot opd_const bin_eql) ?_
      refine OD.still (wants_plain rfl) rfl (still_as rfl ot) ?_
      refine OD.wk (Wk.as_ (n := 102) (l' := [(1, _), (3, _), (5, _), (22, _), (23, _)]) (S' := [⟨b3, 85, 12, [_, _, _, _, _, _, _, _, _, _, _, _]⟩, ⟨b1, 85, 12, [_, _, _, _, _, _, _, _, _, _, _, _]⟩]) rfl rfl ⟨lk, lk, lk, lk, lk, trivial⟩) ?_
      refine OD.nil ?_
      refine CD.cond ot (fun hc2 => ?_) (fun hc2 => ?_)
      · have hc2' := hc2
        (try simp only [decide_eq_true_eq, decide_eq_false_iff_not, beq_iff_eq, bne_iff_ne, Bool.not_eq_true', Bool.not_eq_false', Bool.not_eq_true, Bool.not_eq_false, beq_eq_false_iff_ne, ne_eq, bne_eq_false_iff_eq, Bool.and_eq_true, Bool.or_eq_true, Bool.not_not, Bool.and_eq_false_iff, Bool.or_eq_false_iff, Int.not_lt, Int.not_le] at hc2')
        refine CD.seq ?_
        refine CD.region ?_
        refine OD.still (wants_plain rfl) rfl (still_r1 (mk := fun y => Op.fieldAddr 85 y 2) rfl ot (by first | exact fa_ptr (off := 2) Tryd.runUnderlying85 rfl Tryd.sizeOf56 rfl | exact fa_iptr (off := 2) Tryd.runUnderlying85 rfl Tryd.sizeOf56 rfl)) ?_
        refine OD.still (wants_plain rfl) rfl (still_r1 (mk := Op.load 56) rfl ot (by first | exact ld_blk (k := 1) rfl rfl Tryd.isAgg56 rfl | exact ld_i Tryd.isAgg56 rfl)) ?_
        refine OD.still (wants_plain rfl) rfl (still_r1 (mk := fun y => Op.fieldAddr 85 y 2) rfl ot (by first | exact fa_ptr (off := 2) Tryd.runUnderlying85 rfl Tryd.sizeOf56 rfl | exact fa_iptr (off := 2) Tryd.runUnderlying85 rfl Tryd.sizeOf56 rfl)) ?_
        refine OD.store (k := 0) (cs' := [_, _, _, _, _, _, _, _, _, _, _, _]) (wants_plain rfl) rfl rfl ot rfl rfl ot rfl rfl Tryd.sizeOf56 rfl rfl rfl ?_
        refine OD.wk (Wk.as_ (n := 102) (l' := [(1, _), (3, _)]) (S' := [⟨b3, 85, 12, [_, _, _, _, _, _, _, _, _, _, _, _]⟩, ⟨b1, 85, 12, [_, _, _, _, _, _, _, _, _, _, _, _]⟩]) rfl rfl ⟨lk, lk, trivial⟩) ?_
        refine OD.nil ?_
        refine CD.region ?_
        refine OD.still (wants_plain rfl) rfl (still_r1 (mk := fun y => Op.fieldAddr 85 y 2) rfl ot (by first | exact fa_ptr (off := 2) Tryd.runUnderlying85 rfl Tryd.sizeOf56 rfl | exact fa_iptr (off := 2) Tryd.runUnderlying85 rfl Tryd.sizeOf56 rfl)) ?_
        refine OD.still (wants_plain rfl) rfl (still_r1 (mk := Op.load 56) rfl ot (by first | exact ld_blk (k := 1) rfl rfl Tryd.isAgg56 rfl | exact ld_i Tryd.isAgg56 rfl)) ?_
        refine OD.callP (wants_plain rfl) rfl rfl rfl Tryd.call70 (cols_vp hm hw l hl hok) ⟨ot, trivial⟩ ?_
        refine OD.still (wants_plain rfl) rfl (still_as rfl ot) ?_
        refine OD.wk (Wk.as_ (n := 102) (l' := [(1, _), (3, _), (5, _)]) (S' := [⟨b3, 85, 12, [_, _, _, _, _, _, _, _, _, _, _, _]⟩, ⟨b1, 85, 12, [_, _, _, _, _, _, _, _, _, _, _, _]⟩]) rfl rfl ⟨lk, lk, lk, trivial⟩) ?_
        refine OD.nil ?_
        refine CD.seq ?_
        refine CD.seq ?_
        refine CD.region ?_
        refine OD.still (wants_plain rfl) rfl (still_mv rfl ot) ?_
        refine OD.still (wants_plain rfl) rfl (still_bin rfl ot opd_const bin_eql) ?_
        refine OD.still (wants_plain rfl) rfl (still_mv rfl ot) ?_
        refine OD.split (t := 95) lk (fun hg95 => ?_) (fun hg95 => ?_)
        · have hg95' := hg95; (try simp only [decide_eq_true_eq, decide_eq_false_iff_not, beq_iff_eq, bne_iff_ne, Bool.not_eq_true', Bool.not_eq_false', Bool.not_eq_true, Bool.not_eq_false, beq_eq_false_iff_ne, ne_eq, bne_eq_false_iff_eq, Bool.and_eq_true, Bool.or_eq_true, Bool.not_not] at hg95')
          refine OD.still (wants_T rfl rfl rfl lk (by first | rfl | assumption)) rfl (still_r1 (mk := Op.load 85) rfl ot (by first | exact ld_blks (k := 1) (ds := [_, _, _, _, _, _, _, _, _, _, _, _]) rfl rfl Tryd.isAgg85 Tryd.sizeOf85 rfl rfl | exact ld_is (ds := [_, _, _, _, _, _, _, _, _, _, _, _]) Tryd.isAgg85 Tryd.sizeOf85 rfl rfl)) ?_
          refine OD.still (wants_T rfl rfl rfl lk (by first | rfl | assumption)) rfl (still_r1 (mk := Op.load 85) rfl ot (by first | exact ld_blks (k := 0) (ds := [_, _, _, _, _, _, _, _, _, _, _, _]) rfl rfl Tryd.isAgg85 Tryd.sizeOf85 rfl rfl | exact ld_is (ds := [_, _, _, _, _, _, _, _, _, _, _, _]) Tryd.isAgg85 Tryd.sizeOf85 rfl rfl)) ?_
          refine OD.callP (wants_T rfl rfl rfl lk (by first | rfl | assumption)) rfl rfl rfl Tryd.call74 (hba) ⟨ot, ot, trivial⟩ ?_
          refine OD.still (wants_T rfl rfl rfl lk (by first | rfl | assumption)) rfl (still_un rfl ot un_not) ?_
          refine OD.still (wants_plain rfl) rfl (still_pickT rfl ot (by first | rfl | assumption) ot) ?_
          refine OD.wk (Wk.as_ (n := 102) (l' := [(5, _), (100, _)]) (S' := [⟨b3, 85, 12, [_, _, _, _, _, _, _, _, _, _, _, _]⟩, ⟨b1, 85, 12, [_, _, _, _, _, _, _, _, _, _, _, _]⟩]) rfl rfl ⟨lk, lk, trivial⟩) ?_
          refine OD.nil ?_
          refine CD.cond ot (fun hc9 => ?_) (fun hc9 => ?_)
          · exact absurd hc9 (by first | (simp at hc9; done) | simp_all)
          · have hc9' := hc9
            (try simp only [decide_eq_true_eq, decide_eq_false_iff_not, beq_iff_eq, bne_iff_ne, Bool.not_eq_true', Bool.not_eq_false', Bool.not_eq_true, Bool.not_eq_false, beq_eq_false_iff_ne, ne_eq, bne_eq_false_iff_eq, Bool.and_eq_true, Bool.or_eq_true, Bool.not_not, Bool.and_eq_false_iff, Bool.or_eq_false_iff, Int.not_lt, Int.not_le] at hc9')
            refine CD.skip ?_
            refine CD.seq ?_
            refine CD.region ?_
            refine OD.still (wants_plain rfl) rfl (still_mv rfl ot) ?_
            refine OD.still (wants_plain rfl) rfl (still_as rfl ot) ?_
            refine OD.wk (Wk.as_ (n := 102) (l' := [(2, _)]) (S' := [⟨b3, 85, 12, [_, _, _, _, _, _, _, _, _, _, _, _]⟩, ⟨b1, 85, 12, [_, _, _, _, _, _, _, _, _, _, _, _]⟩]) rfl rfl ⟨lk, trivial⟩) ?_
            refine OD.nil ?_
            refine CD.ret ?_
            refine ⟨.inr rfl, _, [], List.nil_sublist _, ret_one Tryd.results57 (res_tmp (Nat.le_of_ble_eq_true rfl) lk), ?_⟩
            exact ⟨rfl, rfl⟩
        · have hg95' := hg95; (try simp only [decide_eq_true_eq, decide_eq_false_iff_not, beq_iff_eq, bne_iff_ne, Bool.not_eq_true', Bool.not_eq_false', Bool.not_eq_true, Bool.not_eq_false, beq_eq_false_iff_ne, ne_eq, bne_eq_false_iff_eq, Bool.and_eq_true, Bool.or_eq_true, Bool.not_not] at hg95')
          refine OD.skip (wants_F rfl rfl rfl lk (by first | rfl | assumption)) rfl ?_
          refine OD.skip (wants_F rfl rfl rfl lk (by first | rfl | assumption)) rfl ?_
          refine OD.skip (wants_F rfl rfl rfl lk (by first | rfl | assumption)) rfl ?_
          refine OD.skip (wants_F rfl rfl rfl lk (by first | rfl | assumption)) rfl ?_
          refine OD.still (wants_plain rfl) rfl (still_pickF rfl ot (by first | rfl | assumption) opd_const) ?_
          refine OD.wk (Wk.as_ (n := 102) (l' := [(5, _), (100, _)]) (S' := [⟨b3, 85, 12, [_, _, _, _, _, _, _, _, _, _, _, _]⟩, ⟨b1, 85, 12, [_, _, _, _, _, _, _, _, _, _, _, _]⟩]) rfl rfl ⟨lk, lk, trivial⟩) ?_
          refine OD.nil ?_
          refine CD.condF ot (by first | rfl | assumption) ?_
          refine CD.skip ?_
          refine CD.seq ?_
          refine CD.region ?_
          refine OD.still (wants_plain rfl) rfl (still_mv rfl ot) ?_
          refine OD.still (wants_plain rfl) rfl (still_as rfl ot) ?_
          refine OD.wk (Wk.as_ (n := 102) (l' := [(2, _)]) (S' := [⟨b3, 85, 12, [_, _, _, _, _, _, _, _, _, _, _, _]⟩, ⟨b1, 85, 12, [_, _, _, _, _, _, _, _, _, _, _, _]⟩]) rfl rfl ⟨lk, trivial⟩) ?_
          refine OD.nil ?_
          refine CD.ret ?_
          refine ⟨.inr rfl, _, [], List.nil_sublist _, ret_one Tryd.results57 (res_tmp (Nat.le_of_ble_eq_true rfl) lk), ?_⟩
          exact ⟨rfl, rfl⟩
      · exact absurd hc2 (by simp at hc2)
  · exact absurd hc0 (by simp at hc0)

set_option maxHeartbeats 4000000 in
set_option maxRecDepth 100000 in
theorem Check_vp (hm : (1, marksC) ∈ G) (hw : (0, wordsC) ∈ G) (ht : (2, typesC) ∈ G) (l : List ColL) (hl : l.length ≤ maxLen) (hok : ∀ c ∈ l, c.n.size ≤ maxLen) : VP Tryd.prog G 42 [.agg (stD l)] (.v (.int .i64 (colsF l))) := by
  refine VC.body Tryd.func42 rfl Tryd.ntmps42 (Nat.le_of_ble_eq_true rfl) fun X0 w0 S00 => ?_
  have hmx : maxLen = 9223372036854775807 := rfl
  have hcv := check_vp hm hw l hl hok
  unfold stD at hcv
  unfold stD
  refine CD.seq ?_
  refine CD.region ?_
  refine OD.box (ds := [_, _, _, _, _, _, _, _, _, _, _, _]) (wants_plain rfl) rfl rfl ot rfl rfl (fun b1 => ?_)
  refine OD.still (wants_plain rfl) rfl (still_as rfl opd_const) ?_
  refine OD.wk (Wk.as_ (n := 21) (l' := [(1, _)]) (S' := [⟨b1, 85, 12, [_, _, _, _, _, _, _, _, _, _, _, _]⟩]) rfl rfl ⟨lk, trivial⟩) ?_
  refine OD.nil ?_
  refine CD.seq ?_
  refine CD.seq ?_
  refine CD.region ?_
  refine OD.still (wants_plain rfl) rfl (still_r1 (mk := fun y => Op.fieldAddr 85 y 0) rfl ot (by first | exact fa_ptr (off := 0) Tryd.runUnderlying85 rfl Tryd.sizeOf3 rfl | exact fa_iptr (off := 0) Tryd.runUnderlying85 rfl Tryd.sizeOf3 rfl)) ?_
  refine OD.still (wants_plain rfl) rfl (still_r1 (mk := Op.load 3) rfl ot (by first | exact ld_blk (k := 0) rfl rfl Tryd.isAgg3 rfl | exact ld_i Tryd.isAgg3 rfl)) ?_
  refine OD.still (wants_plain rfl) rfl (still_bin rfl ot opd_const bin_lss) ?_
  refine OD.still (wants_plain rfl) rfl (still_mv rfl ot) ?_
  refine OD.split (t := 7) lk (fun hg7 => ?_) (fun hg7 => ?_)
  · exact absurd hg7 (by simp at hg7)
  · have hg7' := hg7; (try simp only [decide_eq_true_eq, decide_eq_false_iff_not, beq_iff_eq, bne_iff_ne, Bool.not_eq_true', Bool.not_eq_false', Bool.not_eq_true, Bool.not_eq_false, beq_eq_false_iff_ne, ne_eq, bne_eq_false_iff_eq, Bool.and_eq_true, Bool.or_eq_true, Bool.not_not] at hg7')
    refine OD.still (wants_T rfl rfl rfl lk (by first | rfl | assumption)) rfl (still_r1 (mk := fun y => Op.fieldAddr 85 y 0) rfl ot (by first | exact fa_ptr (off := 0) Tryd.runUnderlying85 rfl Tryd.sizeOf3 rfl | exact fa_iptr (off := 0) Tryd.runUnderlying85 rfl Tryd.sizeOf3 rfl)) ?_
    refine OD.still (wants_T rfl rfl rfl lk (by first | rfl | assumption)) rfl (still_r1 (mk := Op.load 3) rfl ot (by first | exact ld_blk (k := 0) rfl rfl Tryd.isAgg3 rfl | exact ld_i Tryd.isAgg3 rfl)) ?_
    refine OD.still (wants_T rfl rfl rfl lk (by first | rfl | assumption)) rfl (still_bin rfl ot opd_const bin_gtr) ?_
    refine OD.still (wants_plain rfl) rfl (still_pickF rfl ot (by first | rfl | assumption) ot) ?_
    refine OD.wk (Wk.as_ (n := 21) (l' := [(1, _), (11, _)]) (S' := [⟨b1, 85, 12, [_, _, _, _, _, _, _, _, _, _, _, _]⟩]) rfl rfl ⟨lk, lk, trivial⟩) ?_
    refine OD.nil ?_
    refine CD.cond ot (fun hc0 => ?_) (fun hc0 => ?_)
    · exact absurd hc0 (by simp at hc0)
    · have hc0' := hc0
      (try simp only [decide_eq_true_eq, decide_eq_false_iff_not, beq_iff_eq, bne_iff_ne, Bool.not_eq_true', Bool.not_eq_false', Bool.not_eq_true, Bool.not_eq_false, beq_eq_false_iff_ne, ne_eq, bne_eq_false_iff_eq, Bool.and_eq_true, Bool.or_eq_true, Bool.not_not, Bool.and_eq_false_iff, Bool.or_eq_false_iff, Int.not_lt, Int.not_le] at hc0')
      refine CD.skip ?_
      refine CD.seq ?_
      refine CD.seq ?_
      refine CD.region ?_
      refine OD.still (wants_plain rfl) rfl (still_r1 (mk := Op.load 85) rfl ot (by first | exact ld_blks (k := 0) (ds := [_, _, _, _, _, _, _, _, _, _, _, _]) rfl rfl Tryd.isAgg85 Tryd.sizeOf85 rfl rfl | exact ld_is (ds := [_, _, _, _, _, _, _, _, _, _, _, _]) Tryd.isAgg85 Tryd.sizeOf85 rfl rfl)) ?_
      refine OD.callP (wants_plain rfl) rfl rfl rfl Tryd.call57 (hcv) ⟨ot, trivial⟩ ?_
      refine OD.still (wants_plain rfl) rfl (still_as rfl ot) ?_
      refine OD.wk (Wk.as_ (n := 21) (l' := [(1, _), (3, _)]) (S' := [⟨b1, 85, 12, [_, _, _, _, _, _, _, _, _, _, _, _]⟩]) rfl rfl ⟨lk, lk, trivial⟩) ?_
      refine OD.nil ?_
      refine CD.seq ?_
      refine CD.region ?_
      refine OD.still (wants_plain rfl) rfl (still_mv rfl ot) ?_
      refine OD.still (wants_plain rfl) rfl (still_bin rfl ot opd_const bin_neq) ?_
      refine OD.wk (Wk.as_ (n := 21) (l' := [(1, _), (3, _), (15, _)]) (S' := [⟨b1, 85, 12, [_, _, _, _, _, _, _, _, _, _, _, _]⟩]) rfl rfl ⟨lk, lk, lk, trivial⟩) ?_
      refine OD.nil ?_
      refine CD.cond ot (fun hc1 => ?_) (fun hc1 => ?_)
      · have hc1' := hc1
        (try simp only [decide_eq_true_eq, decide_eq_false_iff_not, beq_iff_eq, bne_iff_ne, Bool.not_eq_true', Bool.not_eq_false', Bool.not_eq_true, Bool.not_eq_false, beq_eq_false_iff_ne, ne_eq, bne_eq_false_iff_eq, Bool.and_eq_true, Bool.or_eq_true, Bool.not_not, Bool.and_eq_false_iff, Bool.or_eq_false_iff, Int.not_lt, Int.not_le] at hc1')
        refine CD.seq ?_
        refine CD.region ?_
        refine OD.still (wants_plain rfl) rfl (still_mv rfl ot) ?_
        refine OD.still (wants_plain rfl) rfl (still_as rfl ot) ?_
        refine OD.wk (Wk.as_ (n := 21) (l' := [(2, _)]) (S' := [⟨b1, 85, 12, [_, _, _, _, _, _, _, _, _, _, _, _]⟩]) rfl rfl ⟨lk, trivial⟩) ?_
        refine OD.nil ?_
        refine CD.ret ?_
        refine ⟨.inr rfl, _, [], List.nil_sublist _, ret_one Tryd.results42 (res_tmp (Nat.le_of_ble_eq_true rfl) lk), ?_⟩
        first | exact ⟨rfl, rfl⟩ | (rw [h0]; exact ⟨rfl, rfl⟩)
      · have hc1' := hc1
        (try simp only [decide_eq_true_eq, decide_eq_false_iff_not, beq_iff_eq, bne_iff_ne, Bool.not_eq_true', Bool.not_eq_false', Bool.not_eq_true, Bool.not_eq_false, beq_eq_false_iff_ne, ne_eq, bne_eq_false_iff_eq, Bool.and_eq_true, Bool.or_eq_true, Bool.not_not, Bool.and_eq_false_iff, Bool.or_eq_false_iff, Int.not_lt, Int.not_le] at hc1')
        have h0 : colsF l = 0 := by simpa using hc1
        obtain ⟨h6, hk⟩ := cols_good h0
        have hsv := show_vp ht l h6.2 hk
        unfold stD at hsv
        have hsl := (show_len h6.2).1
        refine CD.skip ?_
        refine CD.seq ?_
        refine CD.seq ?_
        refine CD.region ?_
        refine OD.still (wants_plain rfl) rfl (still_r1 (mk := Op.load 85) rfl ot (by first | exact ld_blks (k := 0) (ds := [_, _, _, _, _, _, _, _, _, _, _, _]) rfl rfl Tryd.isAgg85 Tryd.sizeOf85 rfl rfl | exact ld_is (ds := [_, _, _, _, _, _, _, _, _, _, _, _]) Tryd.isAgg85 Tryd.sizeOf85 rfl rfl)) ?_
        refine OD.callP (wants_plain rfl) rfl rfl rfl Tryd.call58 (hsv) ⟨ot, trivial⟩ ?_
        refine OD.still (wants_plain rfl) rfl (still_r1 (mk := fun y => .call { callee := .builtin .len, args := #[y], argTypes := #[101] }) rfl ot (by first | exact len_list rfl Tryd.runUnderlying101 | exact len_row rfl Tryd.runUnderlying101)) ?_
        refine OD.still (wants_plain rfl) rfl (still_bin rfl ot opd_const bin_gtr) ?_
        refine OD.wk (Wk.as_ (n := 21) (l' := [(20, _)]) (S' := [⟨b1, 85, 12, [_, _, _, _, _, _, _, _, _, _, _, _]⟩]) rfl rfl ⟨lk, trivial⟩) ?_
        refine OD.nil ?_
        refine CD.cond ot (fun hc2 => ?_) (fun hc2 => ?_)
        · exact absurd hc2 (by simp at hc2; omega)
        · have hc2' := hc2
          (try simp only [decide_eq_true_eq, decide_eq_false_iff_not, beq_iff_eq, bne_iff_ne, Bool.not_eq_true', Bool.not_eq_false', Bool.not_eq_true, Bool.not_eq_false, beq_eq_false_iff_ne, ne_eq, bne_eq_false_iff_eq, Bool.and_eq_true, Bool.or_eq_true, Bool.not_not, Bool.and_eq_false_iff, Bool.or_eq_false_iff, Int.not_lt, Int.not_le] at hc2')
          refine CD.skip ?_
          refine CD.seq ?_
          refine CD.region ?_
          refine OD.still (wants_plain rfl) rfl (still_as rfl opd_const) ?_
          refine OD.wk (Wk.as_ (n := 21) (l' := [(2, _)]) (S' := [⟨b1, 85, 12, [_, _, _, _, _, _, _, _, _, _, _, _]⟩]) rfl rfl ⟨lk, trivial⟩) ?_
          refine OD.nil ?_
          refine CD.ret ?_
          refine ⟨.inr rfl, _, [], List.nil_sublist _, ret_one Tryd.results42 (res_tmp (Nat.le_of_ble_eq_true rfl) lk), ?_⟩
          first | exact ⟨rfl, rfl⟩ | (rw [h0]; exact ⟨rfl, rfl⟩)

set_option maxHeartbeats 4000000 in
set_option maxRecDepth 100000 in
theorem Cols_vp (hm : (1, marksC) ∈ G) (hw : (0, wordsC) ∈ G) (ht : (2, typesC) ∈ G) (l : List ColL) (hl : l.length ≤ maxLen) (hok : ∀ c ∈ l, c.n.size ≤ maxLen) : VP Tryd.prog G 26 [.list 2 (l.flatMap cC) l.length] (.v (.int .i64 (colsF l))) := by
  refine VC.body Tryd.func26 rfl Tryd.ntmps26 (Nat.le_of_ble_eq_true rfl) fun X0 w0 S00 => ?_
  have hmx : maxLen = 9223372036854775807 := rfl
  have hcv := Check_vp hm hw ht l hl hok
  unfold stD at hcv
  refine CD.seq ?_
  refine CD.region ?_
  refine OD.still (wants_plain rfl) rfl (still_as rfl opd_const) ?_
  refine OD.wk (Wk.as_ (n := 6) (l' := [(0, _)]) (S' := []) rfl rfl ⟨lk, trivial⟩) ?_
  refine OD.nil ?_
  refine CD.seq ?_
  refine CD.region ?_
  refine OD.still (wants_plain rfl) rfl (still_mv rfl ot) ?_
  refine OD.still (wants_plain rfl) rfl (still_bld (pl := [(0, _), (1, _), (2, _), (9, _)]) (ds := [_, _, _, _, _, _, _, _, _, _, _, _]) rfl Tryd.zeroValue85 Tryd.runUnderlying85 places85_Pc4 ⟨rfl, opd_const, rfl, opd_const, rfl, ot, rfl, opd_const, trivial⟩ rfl rfl) ?_
  refine OD.callP (wants_plain rfl) rfl rfl rfl Tryd.call42 (hcv) ⟨ot, trivial⟩ ?_
  refine OD.still (wants_plain rfl) rfl (still_as rfl ot) ?_
  refine OD.wk (Wk.as_ (n := 6) (l' := [(2, _)]) (S' := []) rfl rfl ⟨lk, trivial⟩) ?_
  refine OD.nil ?_
  refine CD.ret ?_
  refine ⟨.inr rfl, _, [], List.nil_sublist _, ret_one Tryd.results26 (res_tmp (Nat.le_of_ble_eq_true rfl) lk), ?_⟩
  exact ⟨rfl, rfl⟩

/-- A value in its column. -/
def fitV (i : Nat) (c : ColL) (v : Vl) : Int := if checkV v ≠ 0 then checkV v else if v.k ≠ c.k ∧ (i = 0 ∨ v.k ≠ 0) then 4 else 0
def rowA : Nat → List ColL → List Vl → Int
  | i, c :: cs, v :: vs => if fitV i c v ≠ 0 then fitV i c v else rowA (i + 1) cs vs
  | _, _, _ => 0
/-- What expr.Row answers. -/
def rowF (cs : List ColL) (vs : List Vl) : Int := if colsF cs ≠ 0 then colsF cs else if vs.length ≠ cs.length then 1 else rowA 0 cs vs
theorem rowA_step {cs : List ColL} {vs : List Vl} {i : Nat} (h1 : i < cs.length) (h2 : i < vs.length) (h : fitV i cs[i] vs[i] = 0) : rowA i (cs.drop i) (vs.drop i) = rowA (i + 1) (cs.drop (i + 1)) (vs.drop (i + 1)) := by
  rw [List.drop_eq_getElem_cons h1, List.drop_eq_getElem_cons h2]
  exact if_neg (by simp [h])
theorem rowA_hit {cs : List ColL} {vs : List Vl} {i : Nat} (h1 : i < cs.length) (h2 : i < vs.length) (h : fitV i cs[i] vs[i] ≠ 0) : rowA i (cs.drop i) (vs.drop i) = fitV i cs[i] vs[i] := by
  rw [List.drop_eq_getElem_cons h1, List.drop_eq_getElem_cons h2]
  exact if_pos h
theorem rowA_end {cs : List ColL} {vs : List Vl} {i : Nat} (h : ¬ i < vs.length) : rowA i (cs.drop i) (vs.drop i) = 0 := by
  rw [List.drop_of_length_le (l := vs) (by omega)]
  cases cs.drop i <;> rfl

set_option maxHeartbeats 4000000 in
set_option maxRecDepth 100000 in
theorem Row_vp (hm : (1, marksC) ∈ G) (hw : (0, wordsC) ∈ G) (ht : (2, typesC) ∈ G) (l : List ColL) (hl : l.length ≤ maxLen) (hok : ∀ c ∈ l, c.n.size ≤ maxLen) (vs : List Vl) (hvl : vs.length ≤ maxLen) : VP Tryd.prog G 23 [.list 2 (l.flatMap cC) l.length, .list 3 (vs.flatMap cV) vs.length] (.v (.int .i64 (rowF l vs))) := by
  refine VC.body Tryd.func23 rfl Tryd.ntmps23 (Nat.le_of_ble_eq_true rfl) fun X0 w0 S00 => ?_
  have hmx : maxLen = 9223372036854775807 := rfl
  refine CD.seq ?_
  refine CD.region ?_
  refine OD.still (wants_plain rfl) rfl (still_as rfl opd_const) ?_
  refine OD.wk (Wk.as_ (n := 49) (l' := [(0, _), (1, _)]) (S' := []) rfl rfl ⟨lk, lk, trivial⟩) ?_
  refine OD.nil ?_
  refine CD.seq ?_
  refine CD.seq ?_
  refine CD.region ?_
  refine OD.still (wants_plain rfl) rfl (still_mv rfl ot) ?_
  refine OD.callP (wants_plain rfl) rfl rfl rfl Tryd.call26 (Cols_vp hm hw ht l hl hok) ⟨ot, trivial⟩ ?_
  refine OD.still (wants_plain rfl) rfl (still_as rfl ot) ?_
  refine OD.wk (Wk.as_ (n := 49) (l' := [(0, _), (1, _), (5, _)]) (S' := []) rfl rfl ⟨lk, lk, lk, trivial⟩) ?_
  refine OD.nil ?_
  refine CD.seq ?_
  refine CD.region ?_
  refine OD.still (wants_plain rfl) rfl (still_mv rfl ot) ?_
  refine OD.still (wants_plain rfl) rfl (still_bin rfl ot opd_const bin_neq) ?_
  refine OD.wk (Wk.as_ (n := 49) (l' := [(0, _), (1, _), (5, _), (12, _)]) (S' := []) rfl rfl ⟨lk, lk, lk, lk, trivial⟩) ?_
  refine OD.nil ?_
  refine CD.cond ot (fun hc0 => ?_) (fun hc0 => ?_)
  · have hc0' := hc0
    (try simp only [decide_eq_true_eq, decide_eq_false_iff_not, beq_iff_eq, bne_iff_ne, Bool.not_eq_true', Bool.not_eq_false', Bool.not_eq_true, Bool.not_eq_false, beq_eq_false_iff_ne, ne_eq, bne_eq_false_iff_eq, Bool.and_eq_true, Bool.or_eq_true, Bool.not_not, Bool.and_eq_false_iff, Bool.or_eq_false_iff, Int.not_lt, Int.not_le] at hc0')
    have hne : colsF l ≠ 0 := by simpa using hc0
    have hres : rowF l vs = colsF l := if_pos hne
    refine CD.seq ?_
    refine CD.region ?_
    refine OD.still (wants_plain rfl) rfl (still_mv rfl ot) ?_
    refine OD.still (wants_plain rfl) rfl (still_as rfl ot) ?_
    refine OD.wk (Wk.as_ (n := 49) (l' := [(4, _)]) (S' := []) rfl rfl ⟨lk, trivial⟩) ?_
    refine OD.nil ?_
    refine CD.ret ?_
    refine ⟨.inr rfl, _, [], List.nil_sublist _, ret_one Tryd.results23 (res_tmp (Nat.le_of_ble_eq_true rfl) lk), ?_⟩
    rw [hres]; exact ⟨rfl, rfl⟩
  · have hc0' := hc0
    (try simp only [decide_eq_true_eq, decide_eq_false_iff_not, beq_iff_eq, bne_iff_ne, Bool.not_eq_true', Bool.not_eq_false', Bool.not_eq_true, Bool.not_eq_false, beq_eq_false_iff_ne, ne_eq, bne_eq_false_iff_eq, Bool.and_eq_true, Bool.or_eq_true, Bool.not_not, Bool.and_eq_false_iff, Bool.or_eq_false_iff, Int.not_lt, Int.not_le] at hc0')
    have h0 : ¬ colsF l ≠ 0 := by simpa using hc0
    refine CD.skip ?_
    refine CD.seq ?_
    refine CD.seq ?_
    refine CD.region ?_
    refine OD.still (wants_plain rfl) rfl (still_mv rfl ot) ?_
    refine OD.still (wants_plain rfl) rfl (still_r1 (mk := fun y => .call { callee := .builtin .len, args := #[y], argTypes := #[23] }) rfl ot (by first | exact len_list rfl Tryd.runUnderlying23 | exact len_row rfl Tryd.runUnderlying23)) ?_
    refine OD.still (wants_plain rfl) rfl (still_mv rfl ot) ?_
    refine OD.still (wants_plain rfl) rfl (still_r1 (mk := fun y => .call { callee := .builtin .len, args := #[y], argTypes := #[56] }) rfl ot (by first | exact len_list rfl Tryd.runUnderlying56 | exact len_row rfl Tryd.runUnderlying56)) ?_
    refine OD.still (wants_plain rfl) rfl (still_bin rfl ot ot bin_neq) ?_
    refine OD.wk (Wk.as_ (n := 49) (l' := [(0, _), (1, _), (18, _)]) (S' := []) rfl rfl ⟨lk, lk, lk, trivial⟩) ?_
    refine OD.nil ?_
    refine CD.cond ot (fun hc1 => ?_) (fun hc1 => ?_)
    · have hc1' := hc1
      (try simp only [decide_eq_true_eq, decide_eq_false_iff_not, beq_iff_eq, bne_iff_ne, Bool.not_eq_true', Bool.not_eq_false', Bool.not_eq_true, Bool.not_eq_false, beq_eq_false_iff_ne, ne_eq, bne_eq_false_iff_eq, Bool.and_eq_true, Bool.or_eq_true, Bool.not_not, Bool.and_eq_false_iff, Bool.or_eq_false_iff, Int.not_lt, Int.not_le] at hc1')
      have hres : rowF l vs = 1 := by unfold rowF; rw [if_neg h0, if_pos (by omega)]
      refine CD.seq ?_
      refine CD.region ?_
      refine OD.still (wants_plain rfl) rfl (still_as rfl opd_const) ?_
      refine OD.wk (Wk.as_ (n := 49) (l' := [(4, _)]) (S' := []) rfl rfl ⟨lk, trivial⟩) ?_
      refine OD.nil ?_
      refine CD.ret ?_
      refine ⟨.inr rfl, _, [], List.nil_sublist _, ret_one Tryd.results23 (res_tmp (Nat.le_of_ble_eq_true rfl) lk), ?_⟩
      rw [hres]; exact ⟨rfl, rfl⟩
    · have hc1' := hc1
      (try simp only [decide_eq_true_eq, decide_eq_false_iff_not, beq_iff_eq, bne_iff_ne, Bool.not_eq_true', Bool.not_eq_false', Bool.not_eq_true, Bool.not_eq_false, beq_eq_false_iff_ne, ne_eq, bne_eq_false_iff_eq, Bool.and_eq_true, Bool.or_eq_true, Bool.not_not, Bool.and_eq_false_iff, Bool.or_eq_false_iff, Int.not_lt, Int.not_le] at hc1')
      have hll : vs.length = l.length := by omega
      have hinv0 : rowF l vs = rowA 0 (l.drop 0) (vs.drop 0) := by unfold rowF; rw [if_neg h0, if_neg (by simp [hll])]; rfl
      refine CD.skip ?_
      refine CD.seq ?_
      refine CD.seq ?_
      refine CD.region ?_
      refine OD.still (wants_plain rfl) rfl (still_mv rfl ot) ?_
      refine OD.still (wants_plain rfl) rfl (still_r1 (mk := fun y => .call { callee := .builtin .len, args := #[y], argTypes := #[23] }) rfl ot (by first | exact len_list rfl Tryd.runUnderlying23 | exact len_row rfl Tryd.runUnderlying23)) ?_
      refine OD.still (wants_plain rfl) rfl (still_mv rfl opd_const) ?_
      refine OD.wk (Wk.as_ (n := 49) (l' := [(0, _), (19, _), (20, _), (21, _)]) (S' := []) rfl rfl ⟨lk, lk, lk, lk, trivial⟩) ?_
      refine OD.nil ?_
      refine CD.block ?_
      refine CD.wk (Wk.asS (n := 49) (l' := [(0, .list 2 (l.flatMap cC) l.length), (19, .list 3 (vs.flatMap cV) vs.length), (20, .v (.int .i64 (vs.length : Nat))), (21, .v (.int .i64 ((0) : Nat)))]) (S' := []) rfl (by repeat (first | exact List.Sublist.refl _ | apply List.Sublist.cons)) ⟨(by (repeat (first | exact look_hit | (apply look_at; focus (first | rfl | (simp; done) | (congr 2; omega))) | (apply look_miss; focus rfl))); done), (by (repeat (first | exact look_hit | (apply look_at; focus (first | rfl | (simp; done) | (congr 2; omega))) | (apply look_miss; focus rfl))); done), (by (repeat (first | exact look_hit | (apply look_at; focus (first | rfl | (simp; done) | (congr 2; omega))) | (apply look_miss; focus rfl))); done), (by (repeat (first | exact look_hit | (apply look_at; focus (first | rfl | (simp; done) | (congr 2; omega))) | (apply look_miss; focus rfl))); done), trivial⟩) (CD.loop (fun (i : Nat) y__ => (i ≤ vs.length) ∧ (rowF l vs = rowA i (l.drop i) (vs.drop i)) ∧ y__ = (⟨49, [(0, .list 2 (l.flatMap cC) l.length), (19, .list 3 (vs.flatMap cV) vs.length), (20, .v (.int .i64 (vs.length : Nat))), (21, .v (.int .i64 (i : Nat)))], []⟩ : St)) (fun (i : Nat) => vs.length - i) 0 ⟨(Nat.zero_le _), hinv0, rfl⟩ ?_)
      rintro i _ ⟨hi, hinv, rfl⟩
      refine CD.seq ?_
      refine CD.region ?_
      refine OD.still (wants_plain rfl) rfl (still_bin rfl ot ot bin_lss) ?_
      refine OD.wk (Wk.as_ (n := 49) (l' := [(0, _), (19, _), (20, _), (21, _), (22, _)]) (S' := []) rfl rfl ⟨lk, lk, lk, lk, lk, trivial⟩) ?_
      refine OD.nil ?_
      refine CD.seq ?_
      refine CD.cond ot (fun hc2 => ?_) (fun hc2 => ?_)
      · have hc2' := hc2
        (try simp only [decide_eq_true_eq, decide_eq_false_iff_not, beq_iff_eq, bne_iff_ne, Bool.not_eq_true', Bool.not_eq_false', Bool.not_eq_true, Bool.not_eq_false, beq_eq_false_iff_ne, ne_eq, bne_eq_false_iff_eq, Bool.and_eq_true, Bool.or_eq_true, Bool.not_not, Bool.and_eq_false_iff, Bool.or_eq_false_iff, Int.not_lt, Int.not_le] at hc2')
        have hlt : i < vs.length := by omega
        have hltc : i < l.length := by omega
        refine CD.skip ?_
        refine CD.seq ?_
        refine CD.block ?_
        refine CD.seq ?_
        refine CD.region ?_
        refine OD.still (wants_plain rfl) rfl (still_mv rfl ot) ?_
        refine OD.still (wants_plain rfl) rfl (still_r2 (mk := Op.indexAddr 23) rfl ot ot (by first | exact ix_list Tryd.runUnderlying23 Tryd.sizeOf30 rfl (by first | assumption | omega) | exact ix_list (j := Int.toNat _) Tryd.runUnderlying23 Tryd.sizeOf30 (Int.toNat_of_nonneg (by omega)).symm (by omega) | exact ix_row Tryd.runUnderlying23 Tryd.sizeOf30 rfl (by first | assumption | omega) | exact ix_row (j := Int.toNat _) Tryd.runUnderlying23 Tryd.sizeOf30 (Int.toNat_of_nonneg (by omega)).symm (by omega))) ?_
        refine OD.still (wants_plain rfl) rfl (still_r1 (mk := Op.load 30) rfl ot (by first | exact ld_fms cC_len Tryd.isAgg30 Tryd.sizeOf30 (by first | assumption | omega) | exact ld_fms cV_len Tryd.isAgg30 Tryd.sizeOf30 (by first | assumption | omega) | exact ld_is (ds := [_, _, _]) Tryd.isAgg30 Tryd.sizeOf30 rfl rfl)) ?_
        refine OD.alloc (ds := [_, _, _]) (wants_plain rfl) rfl rfl Tryd.zeroValue30 rfl (fun b7 => ?_)
        refine OD.still (wants_plain rfl) rfl (still_as rfl ot) ?_
        refine OD.store (k := 0) (cs' := [_, _, _]) (wants_plain rfl) rfl rfl ot rfl rfl ot rfl rfl Tryd.sizeOf30 rfl rfl rfl ?_
        refine OD.wk (Wk.as_ (n := 49) (l' := [(0, _), (6, _), (7, _), (19, _), (20, _), (21, _)]) (S' := [⟨b7, 30, 3, [_, _, _]⟩]) rfl rfl ⟨lk, lk, lk, lk, lk, lk, trivial⟩) ?_
        refine OD.nil ?_
        refine CD.seq ?_
        refine CD.seq ?_
        refine CD.region ?_
        refine OD.still (wants_plain rfl) rfl (still_r1 (mk := Op.load 30) rfl ot (by first | exact ld_blks (k := 0) (ds := [_, _, _]) rfl rfl Tryd.isAgg30 Tryd.sizeOf30 rfl rfl | exact ld_fms cC_len Tryd.isAgg30 Tryd.sizeOf30 (by first | assumption | omega) | exact ld_fms cV_len Tryd.isAgg30 Tryd.sizeOf30 (by first | assumption | omega) | exact ld_rows (k := 0) cC_len rfl rfl rfl Tryd.isAgg30 Tryd.sizeOf30 (by first | assumption | omega) | exact ld_rows (k := 0) cV_len rfl rfl rfl Tryd.isAgg30 Tryd.sizeOf30 (by first | assumption | omega) | exact ld_is (ds := [_, _, _]) Tryd.isAgg30 Tryd.sizeOf30 rfl rfl)) ?_
        refine OD.callP (wants_plain rfl) rfl rfl rfl Tryd.call29 (Vl.check_vp vs[i]) ⟨ot, trivial⟩ ?_
        refine OD.still (wants_plain rfl) rfl (still_as rfl ot) ?_
        refine OD.wk (Wk.as_ (n := 49) (l' := [(0, _), (6, _), (7, _), (8, _), (19, _), (20, _), (21, _)]) (S' := [⟨b7, 30, 3, [_, _, _]⟩]) rfl rfl ⟨lk, lk, lk, lk, lk, lk, lk, trivial⟩) ?_
        refine OD.nil ?_
        refine CD.seq ?_
        refine CD.region ?_
        refine OD.still (wants_plain rfl) rfl (still_mv rfl ot) ?_
        refine OD.still (wants_plain rfl) rfl (still_bin rfl ot opd_const bin_neq) ?_
        refine OD.wk (Wk.as_ (n := 49) (l' := [(0, _), (6, _), (7, _), (8, _), (19, _), (20, _), (21, _), (29, _)]) (S' := [⟨b7, 30, 3, [_, _, _]⟩]) rfl rfl ⟨lk, lk, lk, lk, lk, lk, lk, lk, trivial⟩) ?_
        refine OD.nil ?_
        refine CD.cond ot (fun hc3 => ?_) (fun hc3 => ?_)
        · have hc3' := hc3
          (try simp only [decide_eq_true_eq, decide_eq_false_iff_not, beq_iff_eq, bne_iff_ne, Bool.not_eq_true', Bool.not_eq_false', Bool.not_eq_true, Bool.not_eq_false, beq_eq_false_iff_ne, ne_eq, bne_eq_false_iff_eq, Bool.and_eq_true, Bool.or_eq_true, Bool.not_not, Bool.and_eq_false_iff, Bool.or_eq_false_iff, Int.not_lt, Int.not_le] at hc3')
          have hne : checkV vs[i] ≠ 0 := by simpa using hc3
          have hf : fitV i l[i] vs[i] = checkV vs[i] := if_pos hne
          have hres : rowF l vs = checkV vs[i] := by rw [hinv, rowA_hit hltc hlt (by rw [hf]; exact hne), hf]
          refine CD.seq ?_
          refine CD.region ?_
          refine OD.still (wants_plain rfl) rfl (still_mv rfl ot) ?_
          refine OD.still (wants_plain rfl) rfl (still_as rfl ot) ?_
          refine OD.wk (Wk.as_ (n := 49) (l' := [(4, _)]) (S' := [⟨b7, 30, 3, [_, _, _]⟩]) rfl rfl ⟨lk, trivial⟩) ?_
          refine OD.nil ?_
          refine CD.ret ?_
          refine ⟨.inr rfl, _, [], List.nil_sublist _, ret_one Tryd.results23 (res_tmp (Nat.le_of_ble_eq_true rfl) lk), ?_⟩
          rw [hres]; exact ⟨rfl, rfl⟩
        · have hc3' := hc3
          (try simp only [decide_eq_true_eq, decide_eq_false_iff_not, beq_iff_eq, bne_iff_ne, Bool.not_eq_true', Bool.not_eq_false', Bool.not_eq_true, Bool.not_eq_false, beq_eq_false_iff_ne, ne_eq, bne_eq_false_iff_eq, Bool.and_eq_true, Bool.or_eq_true, Bool.not_not, Bool.and_eq_false_iff, Bool.or_eq_false_iff, Int.not_lt, Int.not_le] at hc3')
          have hz : ¬ checkV vs[i] ≠ 0 := by simpa using hc3
          refine CD.skip ?_
          refine CD.seq ?_
          refine CD.draw (bks _) (by kernel_rfl) (fun _ h => h) ?_
          refine AD0.take (i := 0) rfl (by kernel_rfl) (by kernel_rfl) (by kernel_rfl) (by repeat (first | exact NP.body | apply NP.then | apply NP.cut | apply NP.inBlock | apply NP.round)) (wants_plain rfl) rfl (still_r1 (mk := fun y => Op.fieldAddr 30 y 0) rfl ot (by first | exact fa_ptr (off := 0) Tryd.runUnderlying30 rfl Tryd.sizeOf3 rfl | exact fa_iptr (off := 0) Tryd.runUnderlying30 rfl Tryd.sizeOf3 rfl)) (by exact trivial) ?_
          refine AD0.take (i := 1) rfl (by kernel_rfl) (by kernel_rfl) (by kernel_rfl) (by repeat (first | exact NP.body | apply NP.then | apply NP.cut | apply NP.inBlock | apply NP.round)) (wants_plain rfl) rfl (still_r1 (mk := Op.load 3) rfl ot (by first | exact ld_blk (k := 0) rfl rfl Tryd.isAgg3 rfl | exact ld_fm cC_len Tryd.isAgg3 (by first | assumption | omega) rfl | exact ld_fm0 cC_len Tryd.isAgg3 (by first | assumption | omega) rfl | exact ld_fm cV_len Tryd.isAgg3 (by first | assumption | omega) rfl | exact ld_fm0 cV_len Tryd.isAgg3 (by first | assumption | omega) rfl | exact ld_row (k := 0) cC_len rfl rfl rfl Tryd.isAgg3 (by first | assumption | omega) rfl | exact ld_row0 (k := 0) cC_len rfl rfl rfl Tryd.isAgg3 (by first | assumption | omega) rfl | exact ld_row (k := 0) cV_len rfl rfl rfl Tryd.isAgg3 (by first | assumption | omega) rfl | exact ld_row0 (k := 0) cV_len rfl rfl rfl Tryd.isAgg3 (by first | assumption | omega) rfl | exact ld_i Tryd.isAgg3 rfl)) (by first | exact trivial | exact safe_blk (k0 := 0) rfl rfl) ?_
          refine AD0.take (i := 2) rfl (by kernel_rfl) (by kernel_rfl) (by kernel_rfl) (by repeat (first | exact NP.body | apply NP.then | apply NP.cut | apply NP.inBlock | apply NP.round)) (wants_plain rfl) rfl (still_mv rfl ot) (by exact trivial) ?_
          refine AD0.take (i := 3) rfl (by kernel_rfl) (by kernel_rfl) (by kernel_rfl) (by repeat (first | exact NP.body | apply NP.then | apply NP.cut | apply NP.inBlock | apply NP.round)) (wants_plain rfl) rfl (still_mv rfl ot) (by exact trivial) ?_
          refine AD0.take (i := 4) rfl (by kernel_rfl) (by kernel_rfl) (by kernel_rfl) (by repeat (first | exact NP.body | apply NP.then | apply NP.cut | apply NP.inBlock | apply NP.round)) (wants_plain rfl) rfl (still_r2 (mk := Op.indexAddr 56) rfl ot ot (by first | exact ix_list Tryd.runUnderlying56 Tryd.sizeOf61 rfl (by first | assumption | omega) | exact ix_list (j := Int.toNat _) Tryd.runUnderlying56 Tryd.sizeOf61 (Int.toNat_of_nonneg (by omega)).symm (by omega) | exact ix_row Tryd.runUnderlying56 Tryd.sizeOf61 rfl (by first | assumption | omega) | exact ix_row (j := Int.toNat _) Tryd.runUnderlying56 Tryd.sizeOf61 (Int.toNat_of_nonneg (by omega)).symm (by omega))) (by exact trivial) ?_
          refine AD0.take (i := 5) rfl (by kernel_rfl) (by kernel_rfl) (by kernel_rfl) (by repeat (first | exact NP.body | apply NP.then | apply NP.cut | apply NP.inBlock | apply NP.round)) (wants_plain rfl) rfl (still_r1 (mk := fun y => Op.fieldAddr 61 y 1) rfl ot (by first | exact fa_ptr (off := 1) Tryd.runUnderlying61 rfl Tryd.sizeOf3 rfl | exact fa_iptr (off := 1) Tryd.runUnderlying61 rfl Tryd.sizeOf3 rfl)) (by exact trivial) ?_
          refine AD0.take (i := 6) rfl (by kernel_rfl) (by kernel_rfl) (by kernel_rfl) (by repeat (first | exact NP.body | apply NP.then | apply NP.cut | apply NP.inBlock | apply NP.round)) (wants_plain rfl) rfl (still_r1 (mk := Op.load 3) rfl ot (by first | exact ld_blk (k := 0) rfl rfl Tryd.isAgg3 rfl | exact ld_fm cC_len Tryd.isAgg3 (by first | assumption | omega) rfl | exact ld_fm0 cC_len Tryd.isAgg3 (by first | assumption | omega) rfl | exact ld_fm cV_len Tryd.isAgg3 (by first | assumption | omega) rfl | exact ld_fm0 cV_len Tryd.isAgg3 (by first | assumption | omega) rfl | exact ld_row (k := 0) cC_len rfl rfl rfl Tryd.isAgg3 (by first | assumption | omega) rfl | exact ld_row0 (k := 0) cC_len rfl rfl rfl Tryd.isAgg3 (by first | assumption | omega) rfl | exact ld_row (k := 0) cV_len rfl rfl rfl Tryd.isAgg3 (by first | assumption | omega) rfl | exact ld_row0 (k := 0) cV_len rfl rfl rfl Tryd.isAgg3 (by first | assumption | omega) rfl | exact ld_i Tryd.isAgg3 rfl)) (by first | exact trivial | exact safe_blk (k0 := 0) rfl rfl) ?_
          refine AD0.take (i := 7) rfl (by kernel_rfl) (by kernel_rfl) (by kernel_rfl) (by repeat (first | exact NP.body | apply NP.then | apply NP.cut | apply NP.inBlock | apply NP.round)) (wants_plain rfl) rfl (still_bin rfl ot ot bin_neq) (by exact trivial) ?_
          refine AD0.take (i := 8) rfl (by kernel_rfl) (by kernel_rfl) (by kernel_rfl) (by repeat (first | exact NP.body | apply NP.then | apply NP.cut | apply NP.inBlock | apply NP.round)) (wants_plain rfl) rfl (still_mv rfl ot) (by exact trivial) ?_
          refine AD0.split (t := 39) lk (fun hg39 => ?_) (fun hg39 => ?_)
          · have hg39' := hg39; (try simp only [decide_eq_true_eq, decide_eq_false_iff_not, beq_iff_eq, bne_iff_ne, Bool.not_eq_true', Bool.not_eq_false', Bool.not_eq_true, Bool.not_eq_false, beq_eq_false_iff_ne, ne_eq, bne_eq_false_iff_eq, Bool.and_eq_true, Bool.or_eq_true, Bool.not_not, Bool.and_eq_false_iff, Bool.or_eq_false_iff, Int.not_lt, Int.not_le] at hg39')
            refine AD0.take (i := 9) rfl (by kernel_rfl) (by kernel_rfl) (by kernel_rfl) (by repeat (first | exact NP.body | apply NP.then | apply NP.cut | apply NP.inBlock | apply NP.round)) (wants_T rfl rfl rfl lk (by first | rfl | assumption)) rfl (still_mv rfl ot) (by exact trivial) ?_
            refine AD0.take (i := 10) rfl (by kernel_rfl) (by kernel_rfl) (by kernel_rfl) (by repeat (first | exact NP.body | apply NP.then | apply NP.cut | apply NP.inBlock | apply NP.round)) (wants_T rfl rfl rfl lk (by first | rfl | assumption)) rfl (still_bin rfl ot opd_const bin_eql) (by exact trivial) ?_
            refine AD0.take (i := 11) rfl (by kernel_rfl) (by kernel_rfl) (by kernel_rfl) (by repeat (first | exact NP.body | apply NP.then | apply NP.cut | apply NP.inBlock | apply NP.round)) (wants_T rfl rfl rfl lk (by first | rfl | assumption)) rfl (still_mv rfl ot) (by exact trivial) ?_
            refine AD0.split (t := 42) lk (fun hg42 => ?_) (fun hg42 => ?_)
            · have hg42' := hg42; (try simp only [decide_eq_true_eq, decide_eq_false_iff_not, beq_iff_eq, bne_iff_ne, Bool.not_eq_true', Bool.not_eq_false', Bool.not_eq_true, Bool.not_eq_false, beq_eq_false_iff_ne, ne_eq, bne_eq_false_iff_eq, Bool.and_eq_true, Bool.or_eq_true, Bool.not_not, Bool.and_eq_false_iff, Bool.or_eq_false_iff, Int.not_lt, Int.not_le] at hg42')
              refine AD0.takeSkip (i := 12) rfl (by kernel_rfl) (by kernel_rfl) (by kernel_rfl) (by repeat (first | exact NP.body | apply NP.then | apply NP.cut | apply NP.inBlock | apply NP.round)) (wants_F rfl rfl rfl lk (by first | rfl | assumption)) rfl ?_
              refine AD0.takeSkip (i := 13) rfl (by kernel_rfl) (by kernel_rfl) (by kernel_rfl) (by repeat (first | exact NP.body | apply NP.then | apply NP.cut | apply NP.inBlock | apply NP.round)) (wants_F rfl rfl rfl lk (by first | rfl | assumption)) rfl ?_
              refine AD0.takeSkip (i := 14) rfl (by kernel_rfl) (by kernel_rfl) (by kernel_rfl) (by repeat (first | exact NP.body | apply NP.then | apply NP.cut | apply NP.inBlock | apply NP.round)) (wants_F rfl rfl rfl lk (by first | rfl | assumption)) rfl ?_
              refine AD0.take (i := 15) rfl (by kernel_rfl) (by kernel_rfl) (by kernel_rfl) (by repeat (first | exact NP.body | apply NP.then | apply NP.cut | apply NP.inBlock | apply NP.round)) (wants_T rfl rfl rfl lk (by first | rfl | assumption)) rfl (still_pickT rfl ot (by first | rfl | assumption) opd_const) (by exact trivial) ?_
              refine AD0.take (i := 16) rfl (by kernel_rfl) (by kernel_rfl) (by kernel_rfl) (by repeat (first | exact NP.body | apply NP.then | apply NP.cut | apply NP.inBlock | apply NP.round)) (wants_plain rfl) rfl (still_pickT rfl ot (by first | rfl | assumption) ot) (by exact trivial) ?_
              refine AD0.later rfl ?_
              refine AD.wk (y := ⟨49, [(0, _), (19, _), (20, _), (21, _), (47, _)], [⟨b7, 30, 3, [_, _, _]⟩]⟩) (Wk.as_ rfl rfl ⟨lk, lk, lk, lk, lk, trivial⟩) rfl ?_
              refine AD.done (by kernel_rfl) ?_
              refine CD.condT ot (by first | rfl | assumption) ?_
              have hbad : vs[i].k ≠ l[i].k ∧ (i = 0 ∨ vs[i].k ≠ 0) := by first | (simp at *; omega) | (constructor <;> simp_all <;> omega)
              have hf : fitV i l[i] vs[i] = 4 := by unfold fitV; rw [if_neg hz, if_pos hbad]
              have hres : rowF l vs = 4 := by rw [hinv, rowA_hit hltc hlt (by rw [hf]; decide), hf]
              refine CD.seq ?_
              refine CD.region ?_
              refine OD.still (wants_plain rfl) rfl (still_as rfl opd_const) ?_
              refine OD.wk (Wk.as_ (n := 49) (l' := [(4, _)]) (S' := [⟨b7, 30, 3, [_, _, _]⟩]) rfl rfl ⟨lk, trivial⟩) ?_
              refine OD.nil ?_
              refine CD.ret ?_
              refine ⟨.inr rfl, _, [], List.nil_sublist _, ret_one Tryd.results23 (res_tmp (Nat.le_of_ble_eq_true rfl) lk), ?_⟩
              rw [hres]; exact ⟨rfl, rfl⟩
            · have hg42' := hg42; (try simp only [decide_eq_true_eq, decide_eq_false_iff_not, beq_iff_eq, bne_iff_ne, Bool.not_eq_true', Bool.not_eq_false', Bool.not_eq_true, Bool.not_eq_false, beq_eq_false_iff_ne, ne_eq, bne_eq_false_iff_eq, Bool.and_eq_true, Bool.or_eq_true, Bool.not_not, Bool.and_eq_false_iff, Bool.or_eq_false_iff, Int.not_lt, Int.not_le] at hg42')
              refine AD0.take (i := 12) rfl (by kernel_rfl) (by kernel_rfl) (by kernel_rfl) (by repeat (first | exact NP.body | apply NP.then | apply NP.cut | apply NP.inBlock | apply NP.round)) (wants_T rfl rfl rfl lk (by first | rfl | assumption)) rfl (still_r1 (mk := fun y => Op.fieldAddr 30 y 0) rfl ot (by first | exact fa_ptr (off := 0) Tryd.runUnderlying30 rfl Tryd.sizeOf3 rfl | exact fa_iptr (off := 0) Tryd.runUnderlying30 rfl Tryd.sizeOf3 rfl)) (by exact trivial) ?_
              refine AD0.take (i := 13) rfl (by kernel_rfl) (by kernel_rfl) (by kernel_rfl) (by repeat (first | exact NP.body | apply NP.then | apply NP.cut | apply NP.inBlock | apply NP.round)) (wants_T rfl rfl rfl lk (by first | rfl | assumption)) rfl (still_r1 (mk := Op.load 3) rfl ot (by first | exact ld_blk (k := 0) rfl rfl Tryd.isAgg3 rfl | exact ld_fm cC_len Tryd.isAgg3 (by first | assumption | omega) rfl | exact ld_fm0 cC_len Tryd.isAgg3 (by first | assumption | omega) rfl | exact ld_fm cV_len Tryd.isAgg3 (by first | assumption | omega) rfl | exact ld_fm0 cV_len Tryd.isAgg3 (by first | assumption | omega) rfl | exact ld_row (k := 0) cC_len rfl rfl rfl Tryd.isAgg3 (by first | assumption | omega) rfl | exact ld_row0 (k := 0) cC_len rfl rfl rfl Tryd.isAgg3 (by first | assumption | omega) rfl | exact ld_row (k := 0) cV_len rfl rfl rfl Tryd.isAgg3 (by first | assumption | omega) rfl | exact ld_row0 (k := 0) cV_len rfl rfl rfl Tryd.isAgg3 (by first | assumption | omega) rfl | exact ld_i Tryd.isAgg3 rfl)) (by first | exact trivial | exact safe_blk (k0 := 0) rfl rfl) ?_
              refine AD0.take (i := 14) rfl (by kernel_rfl) (by kernel_rfl) (by kernel_rfl) (by repeat (first | exact NP.body | apply NP.then | apply NP.cut | apply NP.inBlock | apply NP.round)) (wants_T rfl rfl rfl lk (by first | rfl | assumption)) rfl (still_bin rfl ot opd_const bin_neq) (by exact trivial) ?_
              refine AD0.take (i := 15) rfl (by kernel_rfl) (by kernel_rfl) (by kernel_rfl) (by repeat (first | exact NP.body | apply NP.then | apply NP.cut | apply NP.inBlock | apply NP.round)) (wants_T rfl rfl rfl lk (by first | rfl | assumption)) rfl (still_pickF rfl ot (by first | rfl | assumption) ot) (by exact trivial) ?_
              refine AD0.take (i := 16) rfl (by kernel_rfl) (by kernel_rfl) (by kernel_rfl) (by repeat (first | exact NP.body | apply NP.then | apply NP.cut | apply NP.inBlock | apply NP.round)) (wants_plain rfl) rfl (still_pickT rfl ot (by first | rfl | assumption) ot) (by exact trivial) ?_
              refine AD0.later rfl ?_
              refine AD.wk (y := ⟨49, [(0, _), (19, _), (20, _), (21, _), (47, _)], [⟨b7, 30, 3, [_, _, _]⟩]⟩) (Wk.as_ rfl rfl ⟨lk, lk, lk, lk, lk, trivial⟩) rfl ?_
              refine AD.done (by kernel_rfl) ?_
              refine CD.cond ot (fun hc4 => ?_) (fun hc4 => ?_)
              · have hc4' := hc4
                (try simp only [decide_eq_true_eq, decide_eq_false_iff_not, beq_iff_eq, bne_iff_ne, Bool.not_eq_true', Bool.not_eq_false', Bool.not_eq_true, Bool.not_eq_false, beq_eq_false_iff_ne, ne_eq, bne_eq_false_iff_eq, Bool.and_eq_true, Bool.or_eq_true, Bool.not_not, Bool.and_eq_false_iff, Bool.or_eq_false_iff, Int.not_lt, Int.not_le] at hc4')
                have hbad : vs[i].k ≠ l[i].k ∧ (i = 0 ∨ vs[i].k ≠ 0) := by first | (simp at *; omega) | (constructor <;> simp_all <;> omega)
                have hf : fitV i l[i] vs[i] = 4 := by unfold fitV; rw [if_neg hz, if_pos hbad]
                have hres : rowF l vs = 4 := by rw [hinv, rowA_hit hltc hlt (by rw [hf]; decide), hf]
                refine CD.seq ?_
                refine CD.region ?_
                refine OD.still (wants_plain rfl) rfl (still_as rfl opd_const) ?_
                refine OD.wk (Wk.as_ (n := 49) (l' := [(4, _)]) (S' := [⟨b7, 30, 3, [_, _, _]⟩]) rfl rfl ⟨lk, trivial⟩) ?_
                refine OD.nil ?_
                refine CD.ret ?_
                refine ⟨.inr rfl, _, [], List.nil_sublist _, ret_one Tryd.results23 (res_tmp (Nat.le_of_ble_eq_true rfl) lk), ?_⟩
                rw [hres]; exact ⟨rfl, rfl⟩
              · have hc4' := hc4
                (try simp only [decide_eq_true_eq, decide_eq_false_iff_not, beq_iff_eq, bne_iff_ne, Bool.not_eq_true', Bool.not_eq_false', Bool.not_eq_true, Bool.not_eq_false, beq_eq_false_iff_ne, ne_eq, bne_eq_false_iff_eq, Bool.and_eq_true, Bool.or_eq_true, Bool.not_not, Bool.and_eq_false_iff, Bool.or_eq_false_iff, Int.not_lt, Int.not_le] at hc4')
                have hgood : ¬ (vs[i].k ≠ l[i].k ∧ (i = 0 ∨ vs[i].k ≠ 0)) := by first | (simp_all; done) | omega | (simp at *; omega)
                have hf : fitV i l[i] vs[i] = 0 := by unfold fitV; rw [if_neg hz, if_neg hgood]
                have hnext := hinv.trans (rowA_step hltc hlt hf)
                refine CD.skip ?_
                refine CD.region ?_
                refine OD.still (wants_plain rfl) rfl (still_bin rfl ot opd_const (bin_add (wrap_i64 (by omega) (by omega)))) ?_
                refine OD.still (wants_plain rfl) rfl (still_mv rfl ot) ?_
                refine OD.wk (Wk.as_ (n := 49) (l' := [(0, _), (19, _), (20, _), (21, _)]) (S' := [⟨b7, 30, 3, [_, _, _]⟩]) rfl rfl ⟨lk, lk, lk, lk, trivial⟩) ?_
                refine OD.nil ?_
                refine ⟨(i + 1), ⟨49, [(0, .list 2 (l.flatMap cC) l.length), (19, .list 3 (vs.flatMap cV) vs.length), (20, .v (.int .i64 (vs.length : Nat))), (21, .v (.int .i64 (((i + 1)) : Nat)))], []⟩, ?_, Wk.asS (n := 49) rfl (by repeat (first | exact List.Sublist.refl _ | apply List.Sublist.cons)) ⟨(by (repeat (first | exact look_hit | (apply look_at; focus (first | rfl | (simp; done) | (congr 2; omega))) | (apply look_miss; focus rfl))); done), (by (repeat (first | exact look_hit | (apply look_at; focus (first | rfl | (simp; done) | (congr 2; omega))) | (apply look_miss; focus rfl))); done), (by (repeat (first | exact look_hit | (apply look_at; focus (first | rfl | (simp; done) | (congr 2; omega))) | (apply look_miss; focus rfl))); done), (by (repeat (first | exact look_hit | (apply look_at; focus (first | rfl | (simp; done) | (congr 2; omega))) | (apply look_miss; focus rfl))); done), trivial⟩, (by omega), hnext, rfl⟩
                first | omega | (simp only []; omega)
          · have hg39' := hg39; (try simp only [decide_eq_true_eq, decide_eq_false_iff_not, beq_iff_eq, bne_iff_ne, Bool.not_eq_true', Bool.not_eq_false', Bool.not_eq_true, Bool.not_eq_false, beq_eq_false_iff_ne, ne_eq, bne_eq_false_iff_eq, Bool.and_eq_true, Bool.or_eq_true, Bool.not_not, Bool.and_eq_false_iff, Bool.or_eq_false_iff, Int.not_lt, Int.not_le] at hg39')
            refine AD0.takeSkip (i := 9) rfl (by kernel_rfl) (by kernel_rfl) (by kernel_rfl) (by repeat (first | exact NP.body | apply NP.then | apply NP.cut | apply NP.inBlock | apply NP.round)) (wants_F rfl rfl rfl lk (by first | rfl | assumption)) rfl ?_
            refine AD0.takeSkip (i := 10) rfl (by kernel_rfl) (by kernel_rfl) (by kernel_rfl) (by repeat (first | exact NP.body | apply NP.then | apply NP.cut | apply NP.inBlock | apply NP.round)) (wants_F rfl rfl rfl lk (by first | rfl | assumption)) rfl ?_
            refine AD0.takeSkip (i := 11) rfl (by kernel_rfl) (by kernel_rfl) (by kernel_rfl) (by repeat (first | exact NP.body | apply NP.then | apply NP.cut | apply NP.inBlock | apply NP.round)) (wants_F rfl rfl rfl lk (by first | rfl | assumption)) rfl ?_
            refine AD0.takeSkip (i := 12) rfl (by kernel_rfl) (by kernel_rfl) (by kernel_rfl) (by repeat (first | exact NP.body | apply NP.then | apply NP.cut | apply NP.inBlock | apply NP.round)) (wants_J (b := false) rfl rfl rfl lk) rfl ?_
            refine AD0.takeSkip (i := 13) rfl (by kernel_rfl) (by kernel_rfl) (by kernel_rfl) (by repeat (first | exact NP.body | apply NP.then | apply NP.cut | apply NP.inBlock | apply NP.round)) (wants_J (b := false) rfl rfl rfl lk) rfl ?_
            refine AD0.takeSkip (i := 14) rfl (by kernel_rfl) (by kernel_rfl) (by kernel_rfl) (by repeat (first | exact NP.body | apply NP.then | apply NP.cut | apply NP.inBlock | apply NP.round)) (wants_J (b := false) rfl rfl rfl lk) rfl ?_
            refine AD0.takeSkip (i := 15) rfl (by kernel_rfl) (by kernel_rfl) (by kernel_rfl) (by repeat (first | exact NP.body | apply NP.then | apply NP.cut | apply NP.inBlock | apply NP.round)) (wants_F rfl rfl rfl lk (by first | rfl | assumption)) rfl ?_
            refine AD0.take (i := 16) rfl (by kernel_rfl) (by kernel_rfl) (by kernel_rfl) (by repeat (first | exact NP.body | apply NP.then | apply NP.cut | apply NP.inBlock | apply NP.round)) (wants_plain rfl) rfl (still_pickF rfl ot (by first | rfl | assumption) opd_const) (by exact trivial) ?_
            refine AD0.later rfl ?_
            refine AD.wk (y := ⟨49, [(0, _), (19, _), (20, _), (21, _), (47, _)], [⟨b7, 30, 3, [_, _, _]⟩]⟩) (Wk.as_ rfl rfl ⟨lk, lk, lk, lk, lk, trivial⟩) rfl ?_
            refine AD.done (by kernel_rfl) ?_
            refine CD.condF ot (by first | rfl | assumption) ?_
            have hgood : ¬ (vs[i].k ≠ l[i].k ∧ (i = 0 ∨ vs[i].k ≠ 0)) := by first | (simp_all; done) | omega | (simp at *; omega)
            have hf : fitV i l[i] vs[i] = 0 := by unfold fitV; rw [if_neg hz, if_neg hgood]
            have hnext := hinv.trans (rowA_step hltc hlt hf)
            refine CD.skip ?_
            refine CD.region ?_
            refine OD.still (wants_plain rfl) rfl (still_bin rfl ot opd_const (bin_add (wrap_i64 (by omega) (by omega)))) ?_
            refine OD.still (wants_plain rfl) rfl (still_mv rfl ot) ?_
            refine OD.wk (Wk.as_ (n := 49) (l' := [(0, _), (19, _), (20, _), (21, _)]) (S' := [⟨b7, 30, 3, [_, _, _]⟩]) rfl rfl ⟨lk, lk, lk, lk, trivial⟩) ?_
            refine OD.nil ?_
            refine ⟨(i + 1), ⟨49, [(0, .list 2 (l.flatMap cC) l.length), (19, .list 3 (vs.flatMap cV) vs.length), (20, .v (.int .i64 (vs.length : Nat))), (21, .v (.int .i64 (((i + 1)) : Nat)))], []⟩, ?_, Wk.asS (n := 49) rfl (by repeat (first | exact List.Sublist.refl _ | apply List.Sublist.cons)) ⟨(by (repeat (first | exact look_hit | (apply look_at; focus (first | rfl | (simp; done) | (congr 2; omega))) | (apply look_miss; focus rfl))); done), (by (repeat (first | exact look_hit | (apply look_at; focus (first | rfl | (simp; done) | (congr 2; omega))) | (apply look_miss; focus rfl))); done), (by (repeat (first | exact look_hit | (apply look_at; focus (first | rfl | (simp; done) | (congr 2; omega))) | (apply look_miss; focus rfl))); done), (by (repeat (first | exact look_hit | (apply look_at; focus (first | rfl | (simp; done) | (congr 2; omega))) | (apply look_miss; focus rfl))); done), trivial⟩, (by omega), hnext, rfl⟩
            first | omega | (simp only []; omega)
      · have hc2' := hc2
        (try simp only [decide_eq_true_eq, decide_eq_false_iff_not, beq_iff_eq, bne_iff_ne, Bool.not_eq_true', Bool.not_eq_false', Bool.not_eq_true, Bool.not_eq_false, beq_eq_false_iff_ne, ne_eq, bne_eq_false_iff_eq, Bool.and_eq_true, Bool.or_eq_true, Bool.not_not, Bool.and_eq_false_iff, Bool.or_eq_false_iff, Int.not_lt, Int.not_le] at hc2')
        have hres : rowF l vs = 0 := by rw [hinv]; exact rowA_end (by omega)
        refine CD.exit ?_
        refine CD.seq ?_
        refine CD.region ?_
        refine OD.still (wants_plain rfl) rfl (still_as rfl opd_const) ?_
        refine OD.wk (Wk.as_ (n := 49) (l' := [(4, _)]) (S' := []) rfl rfl ⟨lk, trivial⟩) ?_
        refine OD.nil ?_
        refine CD.ret ?_
        refine ⟨.inr rfl, _, [], List.nil_sublist _, ret_one Tryd.results23 (res_tmp (Nat.le_of_ble_eq_true rfl) lk), ?_⟩
        rw [hres]; exact ⟨rfl, rfl⟩

end Go.Proofs.YtoemmoeedhllfaaDoor.Pc

namespace Go.Proofs.YtoemmoeedhllfaaDoor.Pc
open Go.RowKit V Pk Vl Go.Proofs.YtoemmoeedhllfaaDoor.Nm
set_option linter.unusedVariables false
set_option linter.unusedSimpArgs false

variable {G : List (Nat × List Value)}
def colsL : List ColL := [⟨⟨#[105, 100]⟩, 2⟩, ⟨⟨#[110]⟩, 2⟩, ⟨⟨#[115]⟩, 3⟩, ⟨⟨#[98]⟩, 1⟩]
def truthF (n : Int) : Vl := if pickedF n 3 = 2 then noVl else ⟨1, pickedF n 3, ⟨#[]⟩⟩
def numV (n : Int) : Vl := ⟨2, n, ⟨#[]⟩⟩
def txtV (s : ByteArray) : Vl := ⟨3, 0, s⟩
def kindV (k : Int) : Vl := ⟨k, 0, ⟨#[]⟩⟩
theorem nm_id : nameF ⟨#[105, 100]⟩ = 0 := small_name (l := [105, 100]) (by decide) (by decide) (by decide)
theorem nm_n : nameF ⟨#[110]⟩ = 0 := small_name (l := [110]) (by decide) (by decide) (by decide)
theorem nm_s : nameF ⟨#[115]⟩ = 0 := small_name (l := [115]) (by decide) (by decide) (by decide)
theorem nm_b : nameF ⟨#[98]⟩ = 0 := small_name (l := [98]) (by decide) (by decide) (by decide)
theorem cols_ok : colsF colsL = 0 := by
  simp [colsF, colsL, colsA, colF, nm_id, nm_n, nm_s, nm_b, str_list]
theorem cols_sz : ∀ c ∈ colsL, c.n.size ≤ maxLen := fun c hc => by
  have h : c.n.size ≤ 2 := by
    simp only [colsL, List.mem_cons, List.not_mem_nil, or_false] at hc
    rcases hc with rfl | rfl | rfl | rfl
    · exact Nat.le_refl 2
    · exact Nat.le_succ 1
    · exact Nat.le_succ 1
    · exact Nat.le_succ 1
  exact Nat.le_trans h (by decide)
theorem row_4 (a b c d : Vl) : rowF colsL [a, b, c, d] = rowA 0 colsL [a, b, c, d] := by unfold rowF; rw [if_neg (by rw [cols_ok]; simp), if_neg (by simp [colsL])]
theorem row_3 (a b c : Vl) : rowF colsL [a, b, c] = 1 := by unfold rowF; rw [if_neg (by rw [cols_ok]; simp), if_pos (by simp [colsL])]
theorem ck_num (n : Int) : checkV (numV n) = 0 := by
  unfold checkV
  rw [if_neg (show ¬ (numV n).k = 0 by show ¬ (2 : Int) = 0; decide), if_neg (show ¬ (numV n).k = 1 by show ¬ (2 : Int) = 1; decide), if_pos (show (numV n).k = 2 from rfl), if_neg (fun h => h rfl)]
theorem ck_txt {s : ByteArray} (h : s.size ≤ 20) : checkV (txtV s) = 0 := by
  unfold checkV
  rw [if_neg (show ¬ (txtV s).k = 0 by show ¬ (3 : Int) = 0; decide), if_neg (show ¬ (txtV s).k = 1 by show ¬ (3 : Int) = 1; decide), if_neg (show ¬ (txtV s).k = 2 by show ¬ (3 : Int) = 2; decide), if_pos (show (txtV s).k = 3 from rfl), if_neg (show ¬ (txtV s).n ≠ 0 from fun h => h rfl), if_neg (show ¬ (txtV s).s.size > 20 by show ¬ s.size > 20; omega)]
theorem ck_no : checkV noVl = 0 := by decide
theorem ck_truth (n : Int) : checkV (truthF n) = 0 := by
  have h := pickedF_bd n (show (1 : Int) ≤ 3 by decide)
  unfold truthF
  split
  · exact ck_no
  · unfold checkV
    rw [if_neg (show ¬ (1 : Int) = 0 by decide), if_pos (show (1 : Int) = 1 from rfl), if_neg]
    rintro (q | q | q)
    · have q : pickedF n 3 < 0 := q
      omega
    · have q : pickedF n 3 > 1 := q
      omega
    · exact q rfl
theorem k_truth (n : Int) : (truthF n).k = 0 ∨ (truthF n).k = 1 := by
  unfold truthF
  split
  · exact .inl rfl
  · exact .inr rfl
theorem fit_ok {i : Nat} {c : ColL} {v : Vl} (h : checkV v = 0) (hk : v.k = c.k ∨ (v.k = 0 ∧ i ≠ 0)) : fitV i c v = 0 := by
  unfold fitV
  rw [if_neg (by simp [h]), if_neg]
  rintro ⟨h1, h2⟩
  rcases hk with hk | hk
  · exact h1 hk
  · rcases h2 with h2 | h2
    · exact hk.2 h2
    · exact h2 hk.1
theorem fit_bad {i : Nat} {c : ColL} {v : Vl} (h : checkV v = 0) (hk : v.k ≠ c.k) (hz : i = 0 ∨ v.k ≠ 0) : fitV i c v = 4 := by
  unfold fitV
  rw [if_neg (by simp [h]), if_pos ⟨hk, hz⟩]
theorem ck_kind {k : Int} (h : k = 1 ∨ k = 2 ∨ k = 3) : checkV (kindV k) = 0 := by
  rcases h with rfl | rfl | rfl <;> decide
theorem word_small (s : ByteArray) : (wordF s).size ≤ 20 := by have := wordF_size s; omega

theorem places61_Pc5 : ∀ w, ((#[{ name := "Name", type := 9, offset := 0, embedded := false, tag := "", pkgPath := "", byteOffset := 0 }, { name := "Kind", type := 3, offset := 1, embedded := false, tag := "", pkgPath := "", byteOffset := 16 }] : Array Field).mapM fun f => do pure (f.offset, ← sizeOf f.type) : Sem (Array (Nat × Nat))).run Tryd.prog w = .ok #[(0, 1), (1, 1)] w := fun w => by simp [Tryd.sizeOf3, Tryd.sizeOf9]

set_option maxHeartbeats 4000000 in
set_option maxRecDepth 100000 in
theorem colsOf_vp : VP Tryd.prog G 24 [] (.list 2 (colsL.flatMap cC) colsL.length) := by
  refine VC.body Tryd.func24 rfl Tryd.ntmps24 (Nat.le_of_ble_eq_true rfl) fun X0 w0 S00 => ?_
  refine CD.seq ?_
  refine CD.region ?_
  refine OD.still (wants_plain rfl) rfl (still_as rfl opd_const) ?_
  refine OD.wk (Wk.as_ (n := 6) (l' := []) (S' := []) rfl rfl trivial) ?_
  refine OD.nil ?_
  refine CD.seq ?_
  refine CD.region ?_
  refine OD.still (wants_plain rfl) rfl (still_bld (pl := [(0, _), (1, _)]) (ds := [_, _]) rfl Tryd.zeroValue61 Tryd.runUnderlying61 places61_Pc5 ⟨rfl, opd_const, rfl, opd_const, trivial⟩ rfl rfl) ?_
  refine OD.still (wants_plain rfl) rfl (still_bld (pl := [(0, _), (1, _)]) (ds := [_, _]) rfl Tryd.zeroValue61 Tryd.runUnderlying61 places61_Pc5 ⟨rfl, opd_const, rfl, opd_const, trivial⟩ rfl rfl) ?_
  refine OD.still (wants_plain rfl) rfl (still_bld (pl := [(0, _), (1, _)]) (ds := [_, _]) rfl Tryd.zeroValue61 Tryd.runUnderlying61 places61_Pc5 ⟨rfl, opd_const, rfl, opd_const, trivial⟩ rfl rfl) ?_
  refine OD.still (wants_plain rfl) rfl (still_bld (pl := [(0, _), (1, _)]) (ds := [_, _]) rfl Tryd.zeroValue61 Tryd.runUnderlying61 places61_Pc5 ⟨rfl, opd_const, rfl, opd_const, trivial⟩ rfl rfl) ?_
  refine OD.bldS (pl := [(0, _), (1, _), (2, _), (3, _)]) (zvs := [.string ⟨#[]⟩, .int .i64 0, .string ⟨#[]⟩, .int .i64 0, .string ⟨#[]⟩, .int .i64 0, .string ⟨#[]⟩, .int .i64 0]) (ds := [_, _, _, _, _, _, _, _]) (wants_plain rfl) rfl rfl Tryd.zeroValue61 Tryd.runUnderlying56 Tryd.sizeOf61 rfl rfl (by kernel_rfl) ⟨rfl, ot, rfl, ot, rfl, ot, rfl, ot, trivial⟩ rfl rfl (fun b5 => ?_)
  refine OD.perm (perm_q11 (S1 := [⟨b5, 61, 4 * 2, List.flatMap cC ([⟨⟨#[105, 100]⟩, 2⟩, ⟨⟨#[110]⟩, 2⟩, ⟨⟨#[115]⟩, 3⟩, ⟨⟨#[98]⟩, 1⟩])⟩]) (A := [])) ?_
  refine OD.still (wants_plain rfl) rfl (still_as rfl ot) ?_
  refine OD.wk (Wk.as_ (n := 6) (l' := [(0, _)]) (S' := ([⟨b5, 61, 4 * 2, List.flatMap cC ([⟨⟨#[105, 100]⟩, 2⟩, ⟨⟨#[110]⟩, 2⟩, ⟨⟨#[115]⟩, 3⟩, ⟨⟨#[98]⟩, 1⟩])⟩])) rfl rfl ⟨lk, trivial⟩) ?_
  refine OD.nil ?_
  refine CD.giveL (t := 0) (Sq := [⟨b5, 61, 4 * 2, List.flatMap cC ([⟨⟨#[105, 100]⟩, 2⟩, ⟨⟨#[110]⟩, 2⟩, ⟨⟨#[115]⟩, 3⟩, ⟨⟨#[98]⟩, 1⟩])⟩]) lk (ownL_row (g := cC) (sz := 2) (e := 61) (ls := [⟨⟨#[105, 100]⟩, 2⟩, ⟨⟨#[110]⟩, 2⟩, ⟨⟨#[115]⟩, 3⟩, ⟨⟨#[98]⟩, 1⟩]) (Nat.le_refl _) (show 4 ≤ maxLen by decide)) (fm_len cC_len _) (perm_r11 (A := [])) ?_
  refine CD.ret ?_
  refine ⟨.inr rfl, _, [], List.nil_sublist _, ret_one Tryd.results24 (res_tmp (Nat.le_of_ble_eq_true rfl) lk), ?_⟩
  exact ⟨rfl, rfl⟩

theorem places30_Pc5 : ∀ w, ((#[{ name := "Kind", type := 3, offset := 0, embedded := false, tag := "", pkgPath := "", byteOffset := 0 }, { name := "Int", type := 3, offset := 1, embedded := false, tag := "", pkgPath := "", byteOffset := 8 }, { name := "Text", type := 9, offset := 2, embedded := false, tag := "", pkgPath := "", byteOffset := 16 }] : Array Field).mapM fun f => do pure (f.offset, ← sizeOf f.type) : Sem (Array (Nat × Nat))).run Tryd.prog w = .ok #[(0, 1), (1, 1), (2, 1)] w := fun w => by simp [Tryd.sizeOf3, Tryd.sizeOf9]

set_option maxHeartbeats 4000000 in
set_option maxRecDepth 100000 in
theorem truth_vp (n : Int) (h1 : -9223372036854775808 ≤ n) (h2 : n ≤ 9223372036854775807) : VP Tryd.prog G 39 [.v (.int .i64 n)] (.agg (cV (truthF n))) := by
  refine VC.body Tryd.func39 rfl Tryd.ntmps39 (Nat.le_of_ble_eq_true rfl) fun X0 w0 S00 => ?_
  refine CD.seq ?_
  refine CD.region ?_
  refine OD.alloc (ds := [_, _, _]) (wants_plain rfl) rfl rfl Tryd.zeroValue30 rfl (fun b2 => ?_)
  refine OD.wk (Wk.as_ (n := 10) (l' := [(0, _), (2, _)]) (S' := [⟨b2, 30, 3, [_, _, _]⟩]) rfl rfl ⟨lk, lk, trivial⟩) ?_
  refine OD.nil ?_
  refine CD.seq ?_
  refine CD.seq ?_
  refine CD.region ?_
  refine OD.still (wants_plain rfl) rfl (still_mv rfl ot) ?_
  refine OD.callP (wants_plain rfl) rfl rfl rfl Tryd.call15 (picked_vp G n 3 h1 h2 (by decide)) ⟨ot, opd_const, trivial⟩ ?_
  refine OD.still (wants_plain rfl) rfl (still_bin rfl ot opd_const bin_eql) ?_
  refine OD.wk (Wk.as_ (n := 10) (l' := [(0, _), (2, _), (5, _)]) (S' := [⟨b2, 30, 3, [_, _, _]⟩]) rfl rfl ⟨lk, lk, lk, trivial⟩) ?_
  refine OD.nil ?_
  refine CD.cond ot (fun hc0 => ?_) (fun hc0 => ?_)
  · have hc0' := hc0
    (try simp only [decide_eq_true_eq, decide_eq_false_iff_not, beq_iff_eq, bne_iff_ne, Bool.not_eq_true', Bool.not_eq_false', Bool.not_eq_true, Bool.not_eq_false, beq_eq_false_iff_ne, ne_eq, bne_eq_false_iff_eq, Bool.and_eq_true, Bool.or_eq_true, Bool.not_not, Bool.and_eq_false_iff, Bool.or_eq_false_iff, Int.not_lt, Int.not_le] at hc0')
    refine CD.seq ?_
    refine CD.region ?_
    refine OD.still (wants_plain rfl) rfl (still_bld (pl := []) (ds := [_, _, _]) rfl Tryd.zeroValue30 Tryd.runUnderlying30 places30_Pc5 trivial rfl rfl) ?_
    refine OD.store (k := 0) (cs' := [_, _, _]) (wants_plain rfl) rfl rfl ot rfl rfl ot rfl rfl Tryd.sizeOf30 rfl rfl rfl ?_
    refine OD.wk (Wk.as_ (n := 10) (l' := [(2, _)]) (S' := [⟨b2, 30, 3, [_, _, _]⟩]) rfl rfl ⟨lk, trivial⟩) ?_
    refine OD.nil ?_
    refine CD.ret ?_
    refine ⟨.inr rfl, _, [], List.nil_sublist _, ret_one Tryd.results39 (res_cells (k := 0) (ds := [_, _, _]) (Nat.le_of_ble_eq_true rfl) lk rfl rfl Tryd.isAgg30 Tryd.sizeOf30 rfl rfl), ?_⟩
    refine ⟨?_, rfl⟩
    unfold truthF noVl
    simp_all [cV]
  · have hc0' := hc0
    (try simp only [decide_eq_true_eq, decide_eq_false_iff_not, beq_iff_eq, bne_iff_ne, Bool.not_eq_true', Bool.not_eq_false', Bool.not_eq_true, Bool.not_eq_false, beq_eq_false_iff_ne, ne_eq, bne_eq_false_iff_eq, Bool.and_eq_true, Bool.or_eq_true, Bool.not_not, Bool.and_eq_false_iff, Bool.or_eq_false_iff, Int.not_lt, Int.not_le] at hc0')
    refine CD.skip ?_
    refine CD.seq ?_
    refine CD.region ?_
    refine OD.still (wants_plain rfl) rfl (still_mv rfl ot) ?_
    refine OD.callP (wants_plain rfl) rfl rfl rfl Tryd.call15 (picked_vp G n 3 h1 h2 (by decide)) ⟨ot, opd_const, trivial⟩ ?_
    refine OD.still (wants_plain rfl) rfl (still_bld (pl := [(0, _), (1, _)]) (ds := [_, _, _]) rfl Tryd.zeroValue30 Tryd.runUnderlying30 places30_Pc5 ⟨rfl, opd_const, rfl, ot, trivial⟩ rfl rfl) ?_
    refine OD.store (k := 0) (cs' := [_, _, _]) (wants_plain rfl) rfl rfl ot rfl rfl ot rfl rfl Tryd.sizeOf30 rfl rfl rfl ?_
    refine OD.wk (Wk.as_ (n := 10) (l' := [(2, _)]) (S' := [⟨b2, 30, 3, [_, _, _]⟩]) rfl rfl ⟨lk, trivial⟩) ?_
    refine OD.nil ?_
    refine CD.ret ?_
    refine ⟨.inr rfl, _, [], List.nil_sublist _, ret_one Tryd.results39 (res_cells (k := 0) (ds := [_, _, _]) (Nat.le_of_ble_eq_true rfl) lk rfl rfl Tryd.isAgg30 Tryd.sizeOf30 rfl rfl), ?_⟩
    refine ⟨?_, rfl⟩
    unfold truthF noVl
    simp_all [cV]

set_option maxHeartbeats 4000000 in
set_option maxRecDepth 100000 in
theorem rowOf_vc (a : Int) (a1 : -9223372036854775808 ≤ a) (a2 : a ≤ 9223372036854775807) (b : Int) (b1 : -9223372036854775808 ≤ b) (b2 : b ≤ 9223372036854775807) (s : ByteArray) (hs : s.size ≤ maxLen) (c : Int) (c1 : -9223372036854775808 ≤ c) (c2 : c ≤ 9223372036854775807) : VC Tryd.prog G 22 [.v (.int .i64 a), .v (.int .i64 b), .v (.string s), .v (.int .i64 c)] [] (fun r S => ∃ b0, r = .v (.slice (some ⟨b0, 0, none⟩) 4 4) ∧ S = [⟨b0, 30, 12, [numV (pickedF a 12), numV (pickedF b 9), txtV (wordF (cutF s 2)), truthF c].flatMap cV⟩]) := by
  refine VC.body Tryd.func22 rfl Tryd.ntmps22 (Nat.le_of_ble_eq_true rfl) fun X0 w0 S00 => ?_
  refine CD.seq ?_
  refine CD.region ?_
  refine OD.still (wants_plain rfl) rfl (still_as rfl opd_const) ?_
  refine OD.wk (Wk.as_ (n := 22) (l' := [(0, _), (1, _), (2, _), (3, _)]) (S' := []) rfl rfl ⟨lk, lk, lk, lk, trivial⟩) ?_
  refine OD.nil ?_
  refine CD.seq ?_
  refine CD.region ?_
  refine OD.still (wants_plain rfl) rfl (still_mv rfl ot) ?_
  refine OD.callP (wants_plain rfl) rfl rfl rfl Tryd.call15 (picked_vp G a 12 a1 a2 (by decide)) ⟨ot, opd_const, trivial⟩ ?_
  refine OD.still (wants_plain rfl) rfl (still_bld (pl := [(0, _), (1, _)]) (ds := [_, _, _]) rfl Tryd.zeroValue30 Tryd.runUnderlying30 places30_Pc5 ⟨rfl, opd_const, rfl, ot, trivial⟩ rfl rfl) ?_
  refine OD.still (wants_plain rfl) rfl (still_mv rfl ot) ?_
  refine OD.callP (wants_plain rfl) rfl rfl rfl Tryd.call15 (picked_vp G b 9 b1 b2 (by decide)) ⟨ot, opd_const, trivial⟩ ?_
  refine OD.still (wants_plain rfl) rfl (still_bld (pl := [(0, _), (1, _)]) (ds := [_, _, _]) rfl Tryd.zeroValue30 Tryd.runUnderlying30 places30_Pc5 ⟨rfl, opd_const, rfl, ot, trivial⟩ rfl rfl) ?_
  refine OD.still (wants_plain rfl) rfl (still_mv rfl ot) ?_
  refine OD.callP (wants_plain rfl) rfl rfl rfl Tryd.call28 (cut_vp s 2 hs) ⟨ot, opd_const, trivial⟩ ?_
  refine OD.callP (wants_plain rfl) rfl rfl rfl Tryd.call18 (Nm.word_vp (cutF s 2) (by rw [cutF_size]; exact Nat.le_trans (Nat.min_le_left _ _) hs)) ⟨ot, trivial⟩ ?_
  refine OD.still (wants_plain rfl) rfl (still_bld (pl := [(0, _), (2, _)]) (ds := [_, _, _]) rfl Tryd.zeroValue30 Tryd.runUnderlying30 places30_Pc5 ⟨rfl, opd_const, rfl, ot, trivial⟩ rfl rfl) ?_
  refine OD.still (wants_plain rfl) rfl (still_mv rfl ot) ?_
  refine OD.callP (wants_plain rfl) rfl rfl rfl Tryd.call39 (truth_vp c c1 c2) ⟨ot, trivial⟩ ?_
  refine OD.bldS (pl := [(0, _), (1, _), (2, _), (3, _)]) (zvs := [.int .i64 0, .int .i64 0, .string ⟨#[]⟩, .int .i64 0, .int .i64 0, .string ⟨#[]⟩, .int .i64 0, .int .i64 0, .string ⟨#[]⟩, .int .i64 0, .int .i64 0, .string ⟨#[]⟩]) (ds := [_, _, _, _, _, _, _, _, _, _, _, _]) (wants_plain rfl) rfl rfl Tryd.zeroValue30 Tryd.runUnderlying23 Tryd.sizeOf30 rfl rfl (by kernel_rfl) ⟨rfl, ot, rfl, ot, rfl, ot, rfl, ot, trivial⟩ rfl rfl (fun b21 => ?_)
  refine OD.still (wants_plain rfl) rfl (still_as rfl ot) ?_
  refine OD.wk (Wk.as_ (n := 22) (l' := [(8, _)]) (S' := [⟨b21, 30, 12, [_, _, _, _, _, _, _, _, _, _, _, _]⟩]) rfl rfl ⟨lk, trivial⟩) ?_
  refine OD.nil ?_
  refine CD.ret ?_
  refine ⟨.inr rfl, _, _, (List.Sublist.refl _), ret_one Tryd.results22 (res_tmp (Nat.le_of_ble_eq_true rfl) lk), ?_⟩
  exact ⟨_, rfl, rfl⟩

set_option maxHeartbeats 4000000 in
set_option maxRecDepth 100000 in
theorem rownull0_vp (hm : (1, marksC) ∈ G) (hw : (0, wordsC) ∈ G) (ht : (2, typesC) ∈ G) (a : Int) (a1 : -9223372036854775808 ≤ a) (a2 : a ≤ 9223372036854775807) (b : Int) (b1 : -9223372036854775808 ≤ b) (b2 : b ≤ 9223372036854775807) (s : ByteArray) (hs : s.size ≤ maxLen) (c : Int) (c1 : -9223372036854775808 ≤ c) (c2 : c ≤ 9223372036854775807) (e : Int) (e1 : -9223372036854775808 ≤ e) (e2 : e ≤ 9223372036854775807) (hj : pickedF e 4 = 0) : VP Tryd.prog G 11 [.v (.int .i64 a), .v (.int .i64 b), .v (.string s), .v (.int .i64 c), .v (.int .i64 e)] (.v (.bool true)) := by
  refine VC.body Tryd.func11 rfl Tryd.ntmps11 (Nat.le_of_ble_eq_true rfl) fun X0 w0 S00 => ?_
  have hmx : maxLen = 9223372036854775807 := rfl
  have hl2 : ([kindV 3, (numV (pickedF b 9)), (txtV (wordF (cutF s 2))), (truthF c)]).length = 4 := rfl
  have f1 : fitV 1 ⟨⟨#[110]⟩, 2⟩ (numV (pickedF b 9)) = 0 := fit_ok (ck_num _) (.inl rfl)
  have f2 : fitV 2 ⟨⟨#[115]⟩, 3⟩ (txtV (wordF (cutF s 2))) = 0 := fit_ok (ck_txt (word_small _)) (.inl rfl)
  have f3 : fitV 3 ⟨⟨#[98]⟩, 1⟩ (truthF c) = 0 := fit_ok (ck_truth _) ((k_truth c).elim (fun h => .inr ⟨h, by decide⟩) .inl)
  have g1 : fitV 0 ⟨⟨#[105, 100]⟩, 2⟩ noVl = 4 := fit_bad ck_no (by decide) (.inl rfl)
  have g2 : fitV 0 ⟨⟨#[105, 100]⟩, 2⟩ (kindV 3) = 4 := fit_bad (ck_kind (by decide)) (by decide) (.inr (by decide))
  have r1 : rowF colsL [noVl, (numV (pickedF b 9)), (txtV (wordF (cutF s 2))), (truthF c)] = 4 := by rw [row_4]; simp [rowA, colsL, f1, f2, f3, g1]
  have r2 : rowF colsL [kindV 3, (numV (pickedF b 9)), (txtV (wordF (cutF s 2))), (truthF c)] = 4 := by rw [row_4]; simp [rowA, colsL, f1, f2, f3, g2]
  have r3 : rowF colsL [kindV 3, (numV (pickedF b 9)), (txtV (wordF (cutF s 2)))] = 1 := row_3 _ _ _
  have hr1 := Row_vp hm hw ht colsL (by decide) cols_sz [noVl, (numV (pickedF b 9)), (txtV (wordF (cutF s 2))), (truthF c)] (show List.length [noVl, (numV (pickedF b 9)), (txtV (wordF (cutF s 2))), (truthF c)] ≤ maxLen by exact Nat.le_trans (show List.length [noVl, (numV (pickedF b 9)), (txtV (wordF (cutF s 2))), (truthF c)] ≤ 4 by simp) (by decide))
  rw [r1] at hr1
  have hr2 := Row_vp hm hw ht colsL (by decide) cols_sz [kindV 3, (numV (pickedF b 9)), (txtV (wordF (cutF s 2))), (truthF c)] (show List.length [kindV 3, (numV (pickedF b 9)), (txtV (wordF (cutF s 2))), (truthF c)] ≤ maxLen by exact Nat.le_trans (show List.length [kindV 3, (numV (pickedF b 9)), (txtV (wordF (cutF s 2))), (truthF c)] ≤ 4 by simp) (by decide))
  rw [r2] at hr2
  have hr3 := Row_vp hm hw ht colsL (by decide) cols_sz [kindV 3, (numV (pickedF b 9)), (txtV (wordF (cutF s 2)))] (show List.length [kindV 3, (numV (pickedF b 9)), (txtV (wordF (cutF s 2)))] ≤ maxLen by exact Nat.le_trans (show List.length [kindV 3, (numV (pickedF b 9)), (txtV (wordF (cutF s 2)))] ≤ 4 by simp) (by decide))
  rw [r3] at hr3
  have hp := picked_vp (G := G) e 4 e1 e2 (by decide)
  rw [hj] at hp
  refine CD.seq ?_
  refine CD.region ?_
  refine OD.still (wants_plain rfl) rfl (still_as rfl opd_const) ?_
  refine OD.wk (Wk.as_ (n := 66) (l' := [(0, _), (1, _), (2, _), (3, _), (4, _)]) (S' := []) rfl rfl ⟨lk, lk, lk, lk, lk, trivial⟩) ?_
  refine OD.nil ?_
  refine CD.seq ?_
  refine CD.region ?_
  refine OD.still (wants_plain rfl) rfl (still_mv rfl ot) ?_
  refine OD.callP (wants_plain rfl) rfl rfl rfl Tryd.call15 (hp) ⟨ot, opd_const, trivial⟩ ?_
  refine OD.still (wants_plain rfl) rfl (still_as rfl ot) ?_
  refine OD.wk (Wk.as_ (n := 66) (l' := [(0, _), (1, _), (2, _), (3, _), (11, _)]) (S' := []) rfl rfl ⟨lk, lk, lk, lk, lk, trivial⟩) ?_
  refine OD.nil ?_
  refine CD.seq ?_
  refine CD.region ?_
  refine OD.still (wants_plain rfl) rfl (still_mv rfl ot) ?_
  refine OD.still (wants_plain rfl) rfl (still_mv rfl ot) ?_
  refine OD.still (wants_plain rfl) rfl (still_mv rfl ot) ?_
  refine OD.still (wants_plain rfl) rfl (still_mv rfl ot) ?_
  refine OD.call (wants_plain rfl) rfl rfl rfl Tryd.call22 (rowOf_vc a a1 a2 b b1 b2 s hs c c1 c2) ⟨ot, ot, ot, ot, trivial⟩ (perm_none _) ?_; rintro _ _ ⟨b22, rfl, rfl⟩
  refine OD.still (wants_plain rfl) rfl (still_as rfl ot) ?_
  refine OD.wk (Wk.as_ (n := 66) (l' := [(11, _), (12, _)]) (S' := [⟨b22, 30, 12, [_, _, _, _, _, _, _, _, _, _, _, _]⟩]) rfl rfl ⟨lk, lk, trivial⟩) ?_
  refine OD.nil ?_
  refine CD.seq ?_
  refine CD.region ?_
  refine OD.still (wants_plain rfl) rfl (still_mv rfl ot) ?_
  refine OD.still (wants_plain rfl) rfl (still_mv rfl ot) ?_
  refine OD.still (wants_plain rfl) rfl (still_bld (pl := []) (ds := [_, _, _]) rfl Tryd.zeroValue30 Tryd.runUnderlying30 places30_Pc5 trivial rfl rfl) ?_
  refine OD.still (wants_plain rfl) rfl (still_r2 (mk := Op.indexAddr 23) rfl ot ot (by first | exact ix_list Tryd.runUnderlying23 Tryd.sizeOf30 rfl (by first | assumption | omega) | exact ix_list (j := Int.toNat _) Tryd.runUnderlying23 Tryd.sizeOf30 (Int.toNat_of_nonneg (by omega)).symm (by omega) | exact ix_row Tryd.runUnderlying23 Tryd.sizeOf30 rfl (by first | assumption | omega) | exact ix_row (j := Int.toNat _) Tryd.runUnderlying23 Tryd.sizeOf30 (Int.toNat_of_nonneg (by omega)).symm (by omega))) ?_
  refine OD.storeAt (k := 0) (cs' := [noVl, (numV (pickedF b 9)), (txtV (wordF (cutF s 2))), (truthF c)].flatMap cV) (wants_plain rfl) rfl rfl ot rfl rfl ot rfl rfl Tryd.sizeOf30 rfl (Nat.le_of_ble_eq_true rfl) rfl ?_
  refine OD.wk (Wk.as_ (n := 66) (l' := [(11, _), (12, _)]) (S' := [⟨b22, 30, 12, [_, _, _, _, _, _, _, _, _, _, _, _]⟩]) rfl rfl ⟨lk, lk, trivial⟩) ?_
  refine OD.nil ?_
  refine CD.seq ?_
  refine CD.region ?_
  refine OD.callP (wants_plain rfl) rfl rfl rfl Tryd.call24 (colsOf_vp) trivial ?_
  refine OD.still (wants_plain rfl) rfl (still_mv rfl ot) ?_
  refine OD.look (wants_plain rfl) rfl rfl rfl Tryd.call23 (hr1) rfl ⟨⟨_, ot, view_same⟩, ⟨_, ot, (view_row (k := 0) (cs := [noVl, (numV (pickedF b 9)), (txtV (wordF (cutF s 2))), (truthF c)].flatMap cV) rfl rfl rfl rfl (Nat.le_refl _) (show 4 ≤ maxLen by decide))⟩, trivial⟩ ?_
  refine OD.still (wants_plain rfl) rfl (still_as rfl ot) ?_
  refine OD.wk (Wk.as_ (n := 66) (l' := [(11, _), (12, _), (13, _)]) (S' := [⟨b22, 30, 12, [_, _, _, _, _, _, _, _, _, _, _, _]⟩]) rfl rfl ⟨lk, lk, lk, trivial⟩) ?_
  refine OD.nil ?_
  refine CD.seq ?_
  refine CD.region ?_
  refine OD.still (wants_plain rfl) rfl (still_mv rfl ot) ?_
  refine OD.still (wants_plain rfl) rfl (still_mv rfl ot) ?_
  refine OD.bldS (pl := [(0, _), (1, _), (2, _), (3, _)]) (zvs := [.int .i64 0, .int .i64 0, .int .i64 0, .int .i64 0]) (ds := [_, _, _, _]) (wants_plain rfl) rfl rfl Tryd.zeroValue3 Tryd.runUnderlying58 Tryd.sizeOf3 rfl rfl (by kernel_rfl) ⟨rfl, opd_const, rfl, opd_const, rfl, opd_const, rfl, opd_const, trivial⟩ rfl rfl (fun b32 => ?_)
  refine OD.still (wants_plain rfl) rfl (still_mv rfl ot) ?_
  refine OD.still (wants_plain rfl) rfl (still_r2 (mk := Op.indexAddr 58) rfl ot ot (by first | exact ix_list Tryd.runUnderlying58 Tryd.sizeOf3 rfl (by first | assumption | omega) | exact ix_list (j := Int.toNat _) Tryd.runUnderlying58 Tryd.sizeOf3 (Int.toNat_of_nonneg (by omega)).symm (by omega) | exact ix_row Tryd.runUnderlying58 Tryd.sizeOf3 rfl (by first | assumption | omega) | exact ix_row (j := Int.toNat _) Tryd.runUnderlying58 Tryd.sizeOf3 (Int.toNat_of_nonneg (by omega)).symm (by omega))) ?_
  refine OD.still (wants_plain rfl) rfl (still_r1 (mk := Op.load 3) rfl ot (ld_blk (k := 0) rfl rfl Tryd.isAgg3 rfl)) ?_
  refine OD.still (wants_plain rfl) rfl (still_bld (pl := [(0, _)]) (ds := [_, _, _]) rfl Tryd.zeroValue30 Tryd.runUnderlying30 places30_Pc5 ⟨rfl, ot, trivial⟩ rfl rfl) ?_
  refine OD.still (wants_plain rfl) rfl (still_r2 (mk := Op.indexAddr 23) rfl ot ot (by first | exact ix_list Tryd.runUnderlying23 Tryd.sizeOf30 rfl (by first | assumption | omega) | exact ix_list (j := Int.toNat _) Tryd.runUnderlying23 Tryd.sizeOf30 (Int.toNat_of_nonneg (by omega)).symm (by omega) | exact ix_row Tryd.runUnderlying23 Tryd.sizeOf30 rfl (by first | assumption | omega) | exact ix_row (j := Int.toNat _) Tryd.runUnderlying23 Tryd.sizeOf30 (Int.toNat_of_nonneg (by omega)).symm (by omega))) ?_
  refine OD.storeAt (k := 1) (cs' := [kindV 3, (numV (pickedF b 9)), (txtV (wordF (cutF s 2))), (truthF c)].flatMap cV) (wants_plain rfl) rfl rfl ot rfl rfl ot rfl rfl Tryd.sizeOf30 rfl (Nat.le_of_ble_eq_true rfl) rfl ?_
  refine OD.wk (Wk.as_ (n := 66) (l' := [(11, _), (12, _), (13, _)]) (S' := [⟨b32, 3, 4, [_, _, _, _]⟩, ⟨b22, 30, 12, [_, _, _, _, _, _, _, _, _, _, _, _]⟩]) rfl rfl ⟨lk, lk, lk, trivial⟩) ?_
  refine OD.nil ?_
  refine CD.seq ?_
  refine CD.region ?_
  refine OD.callP (wants_plain rfl) rfl rfl rfl Tryd.call24 (colsOf_vp) trivial ?_
  refine OD.still (wants_plain rfl) rfl (still_mv rfl ot) ?_
  refine OD.look (wants_plain rfl) rfl rfl rfl Tryd.call23 (hr2) rfl ⟨⟨_, ot, view_same⟩, ⟨_, ot, (view_row (k := 1) (cs := [kindV 3, (numV (pickedF b 9)), (txtV (wordF (cutF s 2))), (truthF c)].flatMap cV) rfl rfl rfl rfl (Nat.le_refl _) (show 4 ≤ maxLen by decide))⟩, trivial⟩ ?_
  refine OD.still (wants_plain rfl) rfl (still_as rfl ot) ?_
  refine OD.wk (Wk.as_ (n := 66) (l' := [(11, _), (12, _), (13, _), (14, _)]) (S' := [⟨b32, 3, 4, [_, _, _, _]⟩, ⟨b22, 30, 12, [_, _, _, _, _, _, _, _, _, _, _, _]⟩]) rfl rfl ⟨lk, lk, lk, lk, trivial⟩) ?_
  refine OD.nil ?_
  refine CD.seq ?_
  refine CD.wk (Wk.give (k := 1) (t := 12) (sz := 3) (m := ([kindV 3, (numV (pickedF b 9)), (txtV (wordF (cutF s 2))), (truthF c)]).length) (cap := ([kindV 3, (numV (pickedF b 9)), (txtV (wordF (cutF s 2))), (truthF c)]).length) (cs := ([kindV 3, (numV (pickedF b 9)), (txtV (wordF (cutF s 2))), (truthF c)].flatMap cV)) rfl lk rfl rfl (Nat.le_refl _) (show 4 ≤ maxLen by decide)) ?_
  refine CD.draw (bks _) (by kernel_rfl) (fun _ h => h) ?_
  refine AD0.take (i := 1) rfl (by kernel_rfl) (by kernel_rfl) (by kernel_rfl) (by repeat (first | exact NP.body | apply NP.then | apply NP.cut | apply NP.inBlock | apply NP.round)) (wants_plain rfl) rfl (still_mv rfl ot) (by exact trivial) ?_
  refine AD0.take (i := 2) rfl (by kernel_rfl) (by kernel_rfl) (by kernel_rfl) (by repeat (first | exact NP.body | apply NP.then | apply NP.cut | apply NP.inBlock | apply NP.round)) (wants_plain rfl) rfl (still_rs (l := 0) (h := 3) rfl ot trivial ⟨_, opd_const⟩ (by first | exact sl_head cC_len (fun h => by cases h) Tryd.runUnderlying23 Tryd.sizeOf30 (by omega) | exact sl_head cV_len (fun h => by cases h) Tryd.runUnderlying23 Tryd.sizeOf30 (by omega) | exact sl_row (fun h => by cases h) Tryd.runUnderlying23 Tryd.sizeOf30 (by omega) | exact sl_list (fun _ => rfl) (fun h => by cases h) Tryd.runUnderlying23 Tryd.sizeOf30 (by omega) (by omega))) (by exact trivial) ?_
  refine AD0.later rfl ?_
  refine AD.one (i := 0) (by kernel_rfl) ?_
  refine AStep.callP rfl (wants_plain rfl) rfl rfl rfl Tryd.call24 (colsOf_vp) trivial ?_
  refine AD.one (i := 3) (by kernel_rfl) ?_
  refine AStep.callP rfl (wants_plain rfl) rfl rfl rfl Tryd.call23 (hr3) ⟨ot, ot, trivial⟩ ?_
  refine AD.take (i := 4) rfl (by kernel_rfl) (by kernel_rfl) (by kernel_rfl) (by repeat (first | exact NP.body | apply NP.then | apply NP.cut | apply NP.inBlock | apply NP.round)) (wants_plain rfl) rfl (still_as rfl ot) (by exact trivial) (by intro h; cases h) ?_
  refine AD.wk (y := ⟨66, [(11, _), (13, _), (14, _), (15, _)], [⟨b32, 3, 4, [_, _, _, _]⟩]⟩) (Wk.as_ rfl rfl ⟨lk, lk, lk, lk, trivial⟩) rfl ?_
  refine AD.done (by kernel_rfl) ?_
  refine CD.seq ?_
  refine CD.region ?_
  refine OD.still (wants_plain rfl) rfl (still_mv rfl ot) ?_
  refine OD.still (wants_plain rfl) rfl (still_bin rfl ot opd_const bin_eql) ?_
  refine OD.still (wants_plain rfl) rfl (still_mv rfl ot) ?_
  refine OD.still (wants_plain rfl) rfl (still_bin rfl ot opd_const bin_eql) ?_
  refine OD.still (wants_plain rfl) rfl (still_bin rfl ot ot (bin_beql Tryd.underlying4)) ?_
  refine OD.still (wants_plain rfl) rfl (still_mv rfl ot) ?_
  refine OD.split (t := 50) lk (fun hg50 => ?_) (fun hg50 => ?_)
  · have hg50' := hg50; (try simp only [decide_eq_true_eq, decide_eq_false_iff_not, beq_iff_eq, bne_iff_ne, Bool.not_eq_true', Bool.not_eq_false', Bool.not_eq_true, Bool.not_eq_false, beq_eq_false_iff_ne, ne_eq, bne_eq_false_iff_eq, Bool.and_eq_true, Bool.or_eq_true, Bool.not_not] at hg50')
    refine OD.still (wants_T rfl rfl rfl lk (by first | rfl | assumption)) rfl (still_mv rfl ot) ?_
    refine OD.still (wants_T rfl rfl rfl lk (by first | rfl | assumption)) rfl (still_bin rfl ot opd_const bin_eql) ?_
    refine OD.still (wants_T rfl rfl rfl lk (by first | rfl | assumption)) rfl (still_mv rfl ot) ?_
    refine OD.split (t := 53) lk (fun hg53 => ?_) (fun hg53 => ?_)
    · exact absurd hg53 (by simp at hg53)
    · have hg53' := hg53; (try simp only [decide_eq_true_eq, decide_eq_false_iff_not, beq_iff_eq, bne_iff_ne, Bool.not_eq_true', Bool.not_eq_false', Bool.not_eq_true, Bool.not_eq_false, beq_eq_false_iff_ne, ne_eq, bne_eq_false_iff_eq, Bool.and_eq_true, Bool.or_eq_true, Bool.not_not] at hg53')
      refine OD.still (wants_T rfl rfl rfl lk (by first | rfl | assumption)) rfl (still_mv rfl ot) ?_
      refine OD.still (wants_T rfl rfl rfl lk (by first | rfl | assumption)) rfl (still_bin rfl ot opd_const bin_eql) ?_
      refine OD.still (wants_T rfl rfl rfl lk (by first | rfl | assumption)) rfl (still_pickF rfl ot (by first | rfl | assumption) ot) ?_
      refine OD.still (wants_plain rfl) rfl (still_pickT rfl ot (by first | rfl | assumption) ot) ?_
      refine OD.still (wants_plain rfl) rfl (still_mv rfl ot) ?_
      refine OD.split (t := 58) lk (fun hg58 => ?_) (fun hg58 => ?_)
      · have hg58' := hg58; (try simp only [decide_eq_true_eq, decide_eq_false_iff_not, beq_iff_eq, bne_iff_ne, Bool.not_eq_true', Bool.not_eq_false', Bool.not_eq_true, Bool.not_eq_false, beq_eq_false_iff_ne, ne_eq, bne_eq_false_iff_eq, Bool.and_eq_true, Bool.or_eq_true, Bool.not_not] at hg58')
        refine OD.still (wants_T rfl rfl rfl lk (by first | rfl | assumption)) rfl (still_mv rfl ot) ?_
        refine OD.still (wants_T rfl rfl rfl lk (by first | rfl | assumption)) rfl (still_bin rfl ot opd_const bin_eql) ?_
        refine OD.still (wants_plain rfl) rfl (still_pickT rfl ot (by first | rfl | assumption) ot) ?_
        refine OD.still (wants_plain rfl) rfl (still_mv rfl ot) ?_
        refine OD.split (t := 62) lk (fun hg62 => ?_) (fun hg62 => ?_)
        · have hg62' := hg62; (try simp only [decide_eq_true_eq, decide_eq_false_iff_not, beq_iff_eq, bne_iff_ne, Bool.not_eq_true', Bool.not_eq_false', Bool.not_eq_true, Bool.not_eq_false, beq_eq_false_iff_ne, ne_eq, bne_eq_false_iff_eq, Bool.and_eq_true, Bool.or_eq_true, Bool.not_not] at hg62')
          refine OD.still (wants_T rfl rfl rfl lk (by first | rfl | assumption)) rfl (still_mv rfl ot) ?_
          refine OD.still (wants_T rfl rfl rfl lk (by first | rfl | assumption)) rfl (still_bin rfl ot opd_const bin_eql) ?_
          refine OD.still (wants_plain rfl) rfl (still_pickT rfl ot (by first | rfl | assumption) ot) ?_
          refine OD.still (wants_plain rfl) rfl (still_as rfl ot) ?_
          refine OD.wk (Wk.as_ (n := 66) (l' := [(10, _)]) (S' := [⟨b32, 3, 4, [_, _, _, _]⟩]) rfl rfl ⟨lk, trivial⟩) ?_
          refine OD.nil ?_
          refine CD.ret ?_
          refine ⟨.inr rfl, _, [], List.nil_sublist _, ret_one Tryd.results11 (res_tmp (Nat.le_of_ble_eq_true rfl) lk), ?_⟩
          first | exact ⟨rfl, rfl⟩ | (refine ⟨vb ?_, rfl⟩; simp; done)
        · exact absurd hg62 (by simp at hg62)
      · exact absurd hg58 (by simp at hg58)
  · exact absurd hg50 (by simp at hg50)

set_option maxHeartbeats 4000000 in
set_option maxRecDepth 100000 in
theorem rownull1_vp (hm : (1, marksC) ∈ G) (hw : (0, wordsC) ∈ G) (ht : (2, typesC) ∈ G) (a : Int) (a1 : -9223372036854775808 ≤ a) (a2 : a ≤ 9223372036854775807) (b : Int) (b1 : -9223372036854775808 ≤ b) (b2 : b ≤ 9223372036854775807) (s : ByteArray) (hs : s.size ≤ maxLen) (c : Int) (c1 : -9223372036854775808 ≤ c) (c2 : c ≤ 9223372036854775807) (e : Int) (e1 : -9223372036854775808 ≤ e) (e2 : e ≤ 9223372036854775807) (hj : pickedF e 4 = 1) : VP Tryd.prog G 11 [.v (.int .i64 a), .v (.int .i64 b), .v (.string s), .v (.int .i64 c), .v (.int .i64 e)] (.v (.bool true)) := by
  refine VC.body Tryd.func11 rfl Tryd.ntmps11 (Nat.le_of_ble_eq_true rfl) fun X0 w0 S00 => ?_
  have hmx : maxLen = 9223372036854775807 := rfl
  have hl2 : ([(numV (pickedF a 12)), kindV 1, (txtV (wordF (cutF s 2))), (truthF c)]).length = 4 := rfl
  have f0 : fitV 0 ⟨⟨#[105, 100]⟩, 2⟩ (numV (pickedF a 12)) = 0 := fit_ok (ck_num _) (.inl rfl)
  have f2 : fitV 2 ⟨⟨#[115]⟩, 3⟩ (txtV (wordF (cutF s 2))) = 0 := fit_ok (ck_txt (word_small _)) (.inl rfl)
  have f3 : fitV 3 ⟨⟨#[98]⟩, 1⟩ (truthF c) = 0 := fit_ok (ck_truth _) ((k_truth c).elim (fun h => .inr ⟨h, by decide⟩) .inl)
  have g1 : fitV 1 ⟨⟨#[110]⟩, 2⟩ noVl = 0 := fit_ok ck_no (.inr ⟨rfl, by decide⟩)
  have g2 : fitV 1 ⟨⟨#[110]⟩, 2⟩ (kindV 1) = 4 := fit_bad (ck_kind (by decide)) (by decide) (.inr (by decide))
  have r1 : rowF colsL [(numV (pickedF a 12)), noVl, (txtV (wordF (cutF s 2))), (truthF c)] = 0 := by rw [row_4]; simp [rowA, colsL, f0, f2, f3, g1]
  have r2 : rowF colsL [(numV (pickedF a 12)), kindV 1, (txtV (wordF (cutF s 2))), (truthF c)] = 4 := by rw [row_4]; simp [rowA, colsL, f0, f2, f3, g2]
  have r3 : rowF colsL [(numV (pickedF a 12)), kindV 1, (txtV (wordF (cutF s 2)))] = 1 := row_3 _ _ _
  have hr1 := Row_vp hm hw ht colsL (by decide) cols_sz [(numV (pickedF a 12)), noVl, (txtV (wordF (cutF s 2))), (truthF c)] (show List.length [(numV (pickedF a 12)), noVl, (txtV (wordF (cutF s 2))), (truthF c)] ≤ maxLen by exact Nat.le_trans (show List.length [(numV (pickedF a 12)), noVl, (txtV (wordF (cutF s 2))), (truthF c)] ≤ 4 by simp) (by decide))
  rw [r1] at hr1
  have hr2 := Row_vp hm hw ht colsL (by decide) cols_sz [(numV (pickedF a 12)), kindV 1, (txtV (wordF (cutF s 2))), (truthF c)] (show List.length [(numV (pickedF a 12)), kindV 1, (txtV (wordF (cutF s 2))), (truthF c)] ≤ maxLen by exact Nat.le_trans (show List.length [(numV (pickedF a 12)), kindV 1, (txtV (wordF (cutF s 2))), (truthF c)] ≤ 4 by simp) (by decide))
  rw [r2] at hr2
  have hr3 := Row_vp hm hw ht colsL (by decide) cols_sz [(numV (pickedF a 12)), kindV 1, (txtV (wordF (cutF s 2)))] (show List.length [(numV (pickedF a 12)), kindV 1, (txtV (wordF (cutF s 2)))] ≤ maxLen by exact Nat.le_trans (show List.length [(numV (pickedF a 12)), kindV 1, (txtV (wordF (cutF s 2)))] ≤ 4 by simp) (by decide))
  rw [r3] at hr3
  have hp := picked_vp (G := G) e 4 e1 e2 (by decide)
  rw [hj] at hp
  refine CD.seq ?_
  refine CD.region ?_
  refine OD.still (wants_plain rfl) rfl (still_as rfl opd_const) ?_
  refine OD.wk (Wk.as_ (n := 66) (l' := [(0, _), (1, _), (2, _), (3, _), (4, _)]) (S' := []) rfl rfl ⟨lk, lk, lk, lk, lk, trivial⟩) ?_
  refine OD.nil ?_
  refine CD.seq ?_
  refine CD.region ?_
  refine OD.still (wants_plain rfl) rfl (still_mv rfl ot) ?_
  refine OD.callP (wants_plain rfl) rfl rfl rfl Tryd.call15 (hp) ⟨ot, opd_const, trivial⟩ ?_
  refine OD.still (wants_plain rfl) rfl (still_as rfl ot) ?_
  refine OD.wk (Wk.as_ (n := 66) (l' := [(0, _), (1, _), (2, _), (3, _), (11, _)]) (S' := []) rfl rfl ⟨lk, lk, lk, lk, lk, trivial⟩) ?_
  refine OD.nil ?_
  refine CD.seq ?_
  refine CD.region ?_
  refine OD.still (wants_plain rfl) rfl (still_mv rfl ot) ?_
  refine OD.still (wants_plain rfl) rfl (still_mv rfl ot) ?_
  refine OD.still (wants_plain rfl) rfl (still_mv rfl ot) ?_
  refine OD.still (wants_plain rfl) rfl (still_mv rfl ot) ?_
  refine OD.call (wants_plain rfl) rfl rfl rfl Tryd.call22 (rowOf_vc a a1 a2 b b1 b2 s hs c c1 c2) ⟨ot, ot, ot, ot, trivial⟩ (perm_none _) ?_; rintro _ _ ⟨b22, rfl, rfl⟩
  refine OD.still (wants_plain rfl) rfl (still_as rfl ot) ?_
  refine OD.wk (Wk.as_ (n := 66) (l' := [(11, _), (12, _)]) (S' := [⟨b22, 30, 12, [_, _, _, _, _, _, _, _, _, _, _, _]⟩]) rfl rfl ⟨lk, lk, trivial⟩) ?_
  refine OD.nil ?_
  refine CD.seq ?_
  refine CD.region ?_
  refine OD.still (wants_plain rfl) rfl (still_mv rfl ot) ?_
  refine OD.still (wants_plain rfl) rfl (still_mv rfl ot) ?_
  refine OD.still (wants_plain rfl) rfl (still_bld (pl := []) (ds := [_, _, _]) rfl Tryd.zeroValue30 Tryd.runUnderlying30 places30_Pc5 trivial rfl rfl) ?_
  refine OD.still (wants_plain rfl) rfl (still_r2 (mk := Op.indexAddr 23) rfl ot ot (by first | exact ix_list Tryd.runUnderlying23 Tryd.sizeOf30 rfl (by first | assumption | omega) | exact ix_list (j := Int.toNat _) Tryd.runUnderlying23 Tryd.sizeOf30 (Int.toNat_of_nonneg (by omega)).symm (by omega) | exact ix_row Tryd.runUnderlying23 Tryd.sizeOf30 rfl (by first | assumption | omega) | exact ix_row (j := Int.toNat _) Tryd.runUnderlying23 Tryd.sizeOf30 (Int.toNat_of_nonneg (by omega)).symm (by omega))) ?_
  refine OD.storeAt (k := 0) (cs' := [(numV (pickedF a 12)), noVl, (txtV (wordF (cutF s 2))), (truthF c)].flatMap cV) (wants_plain rfl) rfl rfl ot rfl rfl ot rfl rfl Tryd.sizeOf30 rfl (Nat.le_of_ble_eq_true rfl) rfl ?_
  refine OD.wk (Wk.as_ (n := 66) (l' := [(11, _), (12, _)]) (S' := [⟨b22, 30, 12, [_, _, _, _, _, _, _, _, _, _, _, _]⟩]) rfl rfl ⟨lk, lk, trivial⟩) ?_
  refine OD.nil ?_
  refine CD.seq ?_
  refine CD.region ?_
  refine OD.callP (wants_plain rfl) rfl rfl rfl Tryd.call24 (colsOf_vp) trivial ?_
  refine OD.still (wants_plain rfl) rfl (still_mv rfl ot) ?_
  refine OD.look (wants_plain rfl) rfl rfl rfl Tryd.call23 (hr1) rfl ⟨⟨_, ot, view_same⟩, ⟨_, ot, (view_row (k := 0) (cs := [(numV (pickedF a 12)), noVl, (txtV (wordF (cutF s 2))), (truthF c)].flatMap cV) rfl rfl rfl rfl (Nat.le_refl _) (show 4 ≤ maxLen by decide))⟩, trivial⟩ ?_
  refine OD.still (wants_plain rfl) rfl (still_as rfl ot) ?_
  refine OD.wk (Wk.as_ (n := 66) (l' := [(11, _), (12, _), (13, _)]) (S' := [⟨b22, 30, 12, [_, _, _, _, _, _, _, _, _, _, _, _]⟩]) rfl rfl ⟨lk, lk, lk, trivial⟩) ?_
  refine OD.nil ?_
  refine CD.seq ?_
  refine CD.region ?_
  refine OD.still (wants_plain rfl) rfl (still_mv rfl ot) ?_
  refine OD.still (wants_plain rfl) rfl (still_mv rfl ot) ?_
  refine OD.bldS (pl := [(0, _), (1, _), (2, _), (3, _)]) (zvs := [.int .i64 0, .int .i64 0, .int .i64 0, .int .i64 0]) (ds := [_, _, _, _]) (wants_plain rfl) rfl rfl Tryd.zeroValue3 Tryd.runUnderlying58 Tryd.sizeOf3 rfl rfl (by kernel_rfl) ⟨rfl, opd_const, rfl, opd_const, rfl, opd_const, rfl, opd_const, trivial⟩ rfl rfl (fun b32 => ?_)
  refine OD.still (wants_plain rfl) rfl (still_mv rfl ot) ?_
  refine OD.still (wants_plain rfl) rfl (still_r2 (mk := Op.indexAddr 58) rfl ot ot (by first | exact ix_list Tryd.runUnderlying58 Tryd.sizeOf3 rfl (by first | assumption | omega) | exact ix_list (j := Int.toNat _) Tryd.runUnderlying58 Tryd.sizeOf3 (Int.toNat_of_nonneg (by omega)).symm (by omega) | exact ix_row Tryd.runUnderlying58 Tryd.sizeOf3 rfl (by first | assumption | omega) | exact ix_row (j := Int.toNat _) Tryd.runUnderlying58 Tryd.sizeOf3 (Int.toNat_of_nonneg (by omega)).symm (by omega))) ?_
  refine OD.still (wants_plain rfl) rfl (still_r1 (mk := Op.load 3) rfl ot (ld_blk (k := 0) rfl rfl Tryd.isAgg3 rfl)) ?_
  refine OD.still (wants_plain rfl) rfl (still_bld (pl := [(0, _)]) (ds := [_, _, _]) rfl Tryd.zeroValue30 Tryd.runUnderlying30 places30_Pc5 ⟨rfl, ot, trivial⟩ rfl rfl) ?_
  refine OD.still (wants_plain rfl) rfl (still_r2 (mk := Op.indexAddr 23) rfl ot ot (by first | exact ix_list Tryd.runUnderlying23 Tryd.sizeOf30 rfl (by first | assumption | omega) | exact ix_list (j := Int.toNat _) Tryd.runUnderlying23 Tryd.sizeOf30 (Int.toNat_of_nonneg (by omega)).symm (by omega) | exact ix_row Tryd.runUnderlying23 Tryd.sizeOf30 rfl (by first | assumption | omega) | exact ix_row (j := Int.toNat _) Tryd.runUnderlying23 Tryd.sizeOf30 (Int.toNat_of_nonneg (by omega)).symm (by omega))) ?_
  refine OD.storeAt (k := 1) (cs' := [(numV (pickedF a 12)), kindV 1, (txtV (wordF (cutF s 2))), (truthF c)].flatMap cV) (wants_plain rfl) rfl rfl ot rfl rfl ot rfl rfl Tryd.sizeOf30 rfl (Nat.le_of_ble_eq_true rfl) rfl ?_
  refine OD.wk (Wk.as_ (n := 66) (l' := [(11, _), (12, _), (13, _)]) (S' := [⟨b32, 3, 4, [_, _, _, _]⟩, ⟨b22, 30, 12, [_, _, _, _, _, _, _, _, _, _, _, _]⟩]) rfl rfl ⟨lk, lk, lk, trivial⟩) ?_
  refine OD.nil ?_
  refine CD.seq ?_
  refine CD.region ?_
  refine OD.callP (wants_plain rfl) rfl rfl rfl Tryd.call24 (colsOf_vp) trivial ?_
  refine OD.still (wants_plain rfl) rfl (still_mv rfl ot) ?_
  refine OD.look (wants_plain rfl) rfl rfl rfl Tryd.call23 (hr2) rfl ⟨⟨_, ot, view_same⟩, ⟨_, ot, (view_row (k := 1) (cs := [(numV (pickedF a 12)), kindV 1, (txtV (wordF (cutF s 2))), (truthF c)].flatMap cV) rfl rfl rfl rfl (Nat.le_refl _) (show 4 ≤ maxLen by decide))⟩, trivial⟩ ?_
  refine OD.still (wants_plain rfl) rfl (still_as rfl ot) ?_
  refine OD.wk (Wk.as_ (n := 66) (l' := [(11, _), (12, _), (13, _), (14, _)]) (S' := [⟨b32, 3, 4, [_, _, _, _]⟩, ⟨b22, 30, 12, [_, _, _, _, _, _, _, _, _, _, _, _]⟩]) rfl rfl ⟨lk, lk, lk, lk, trivial⟩) ?_
  refine OD.nil ?_
  refine CD.seq ?_
  refine CD.wk (Wk.give (k := 1) (t := 12) (sz := 3) (m := ([(numV (pickedF a 12)), kindV 1, (txtV (wordF (cutF s 2))), (truthF c)]).length) (cap := ([(numV (pickedF a 12)), kindV 1, (txtV (wordF (cutF s 2))), (truthF c)]).length) (cs := ([(numV (pickedF a 12)), kindV 1, (txtV (wordF (cutF s 2))), (truthF c)].flatMap cV)) rfl lk rfl rfl (Nat.le_refl _) (show 4 ≤ maxLen by decide)) ?_
  refine CD.draw (bks _) (by kernel_rfl) (fun _ h => h) ?_
  refine AD0.take (i := 1) rfl (by kernel_rfl) (by kernel_rfl) (by kernel_rfl) (by repeat (first | exact NP.body | apply NP.then | apply NP.cut | apply NP.inBlock | apply NP.round)) (wants_plain rfl) rfl (still_mv rfl ot) (by exact trivial) ?_
  refine AD0.take (i := 2) rfl (by kernel_rfl) (by kernel_rfl) (by kernel_rfl) (by repeat (first | exact NP.body | apply NP.then | apply NP.cut | apply NP.inBlock | apply NP.round)) (wants_plain rfl) rfl (still_rs (l := 0) (h := 3) rfl ot trivial ⟨_, opd_const⟩ (by first | exact sl_head cC_len (fun h => by cases h) Tryd.runUnderlying23 Tryd.sizeOf30 (by omega) | exact sl_head cV_len (fun h => by cases h) Tryd.runUnderlying23 Tryd.sizeOf30 (by omega) | exact sl_row (fun h => by cases h) Tryd.runUnderlying23 Tryd.sizeOf30 (by omega) | exact sl_list (fun _ => rfl) (fun h => by cases h) Tryd.runUnderlying23 Tryd.sizeOf30 (by omega) (by omega))) (by exact trivial) ?_
  refine AD0.later rfl ?_
  refine AD.one (i := 0) (by kernel_rfl) ?_
  refine AStep.callP rfl (wants_plain rfl) rfl rfl rfl Tryd.call24 (colsOf_vp) trivial ?_
  refine AD.one (i := 3) (by kernel_rfl) ?_
  refine AStep.callP rfl (wants_plain rfl) rfl rfl rfl Tryd.call23 (hr3) ⟨ot, ot, trivial⟩ ?_
  refine AD.take (i := 4) rfl (by kernel_rfl) (by kernel_rfl) (by kernel_rfl) (by repeat (first | exact NP.body | apply NP.then | apply NP.cut | apply NP.inBlock | apply NP.round)) (wants_plain rfl) rfl (still_as rfl ot) (by exact trivial) (by intro h; cases h) ?_
  refine AD.wk (y := ⟨66, [(11, _), (13, _), (14, _), (15, _)], [⟨b32, 3, 4, [_, _, _, _]⟩]⟩) (Wk.as_ rfl rfl ⟨lk, lk, lk, lk, trivial⟩) rfl ?_
  refine AD.done (by kernel_rfl) ?_
  refine CD.seq ?_
  refine CD.region ?_
  refine OD.still (wants_plain rfl) rfl (still_mv rfl ot) ?_
  refine OD.still (wants_plain rfl) rfl (still_bin rfl ot opd_const bin_eql) ?_
  refine OD.still (wants_plain rfl) rfl (still_mv rfl ot) ?_
  refine OD.still (wants_plain rfl) rfl (still_bin rfl ot opd_const bin_eql) ?_
  refine OD.still (wants_plain rfl) rfl (still_bin rfl ot ot (bin_beql Tryd.underlying4)) ?_
  refine OD.still (wants_plain rfl) rfl (still_mv rfl ot) ?_
  refine OD.split (t := 50) lk (fun hg50 => ?_) (fun hg50 => ?_)
  · have hg50' := hg50; (try simp only [decide_eq_true_eq, decide_eq_false_iff_not, beq_iff_eq, bne_iff_ne, Bool.not_eq_true', Bool.not_eq_false', Bool.not_eq_true, Bool.not_eq_false, beq_eq_false_iff_ne, ne_eq, bne_eq_false_iff_eq, Bool.and_eq_true, Bool.or_eq_true, Bool.not_not] at hg50')
    refine OD.still (wants_T rfl rfl rfl lk (by first | rfl | assumption)) rfl (still_mv rfl ot) ?_
    refine OD.still (wants_T rfl rfl rfl lk (by first | rfl | assumption)) rfl (still_bin rfl ot opd_const bin_eql) ?_
    refine OD.still (wants_T rfl rfl rfl lk (by first | rfl | assumption)) rfl (still_mv rfl ot) ?_
    refine OD.split (t := 53) lk (fun hg53 => ?_) (fun hg53 => ?_)
    · have hg53' := hg53; (try simp only [decide_eq_true_eq, decide_eq_false_iff_not, beq_iff_eq, bne_iff_ne, Bool.not_eq_true', Bool.not_eq_false', Bool.not_eq_true, Bool.not_eq_false, beq_eq_false_iff_ne, ne_eq, bne_eq_false_iff_eq, Bool.and_eq_true, Bool.or_eq_true, Bool.not_not] at hg53')
      refine OD.skip (wants_F rfl rfl rfl lk (by first | rfl | assumption)) rfl ?_
      refine OD.skip (wants_F rfl rfl rfl lk (by first | rfl | assumption)) rfl ?_
      refine OD.still (wants_T rfl rfl rfl lk (by first | rfl | assumption)) rfl (still_pickT rfl ot (by first | rfl | assumption) opd_const) ?_
      refine OD.still (wants_plain rfl) rfl (still_pickT rfl ot (by first | rfl | assumption) ot) ?_
      refine OD.still (wants_plain rfl) rfl (still_mv rfl ot) ?_
      refine OD.still (wants_T rfl rfl rfl lk (by first | rfl | assumption)) rfl (still_mv rfl ot) ?_
      refine OD.still (wants_T rfl rfl rfl lk (by first | rfl | assumption)) rfl (still_bin rfl ot opd_const bin_eql) ?_
      refine OD.still (wants_plain rfl) rfl (still_pickT rfl ot (by first | rfl | assumption) ot) ?_
      refine OD.still (wants_plain rfl) rfl (still_mv rfl ot) ?_
      refine OD.split (t := 62) lk (fun hg62 => ?_) (fun hg62 => ?_)
      · have hg62' := hg62; (try simp only [decide_eq_true_eq, decide_eq_false_iff_not, beq_iff_eq, bne_iff_ne, Bool.not_eq_true', Bool.not_eq_false', Bool.not_eq_true, Bool.not_eq_false, beq_eq_false_iff_ne, ne_eq, bne_eq_false_iff_eq, Bool.and_eq_true, Bool.or_eq_true, Bool.not_not] at hg62')
        refine OD.still (wants_T rfl rfl rfl lk (by first | rfl | assumption)) rfl (still_mv rfl ot) ?_
        refine OD.still (wants_T rfl rfl rfl lk (by first | rfl | assumption)) rfl (still_bin rfl ot opd_const bin_eql) ?_
        refine OD.still (wants_plain rfl) rfl (still_pickT rfl ot (by first | rfl | assumption) ot) ?_
        refine OD.still (wants_plain rfl) rfl (still_as rfl ot) ?_
        refine OD.wk (Wk.as_ (n := 66) (l' := [(10, _)]) (S' := [⟨b32, 3, 4, [_, _, _, _]⟩]) rfl rfl ⟨lk, trivial⟩) ?_
        refine OD.nil ?_
        refine CD.ret ?_
        refine ⟨.inr rfl, _, [], List.nil_sublist _, ret_one Tryd.results11 (res_tmp (Nat.le_of_ble_eq_true rfl) lk), ?_⟩
        first | exact ⟨rfl, rfl⟩ | (refine ⟨vb ?_, rfl⟩; simp; done)
      · exact absurd hg62 (by simp at hg62)
    · exact absurd hg53 (by simp at hg53)
  · exact absurd hg50 (by simp at hg50)

set_option maxHeartbeats 4000000 in
set_option maxRecDepth 100000 in
theorem rownull2_vp (hm : (1, marksC) ∈ G) (hw : (0, wordsC) ∈ G) (ht : (2, typesC) ∈ G) (a : Int) (a1 : -9223372036854775808 ≤ a) (a2 : a ≤ 9223372036854775807) (b : Int) (b1 : -9223372036854775808 ≤ b) (b2 : b ≤ 9223372036854775807) (s : ByteArray) (hs : s.size ≤ maxLen) (c : Int) (c1 : -9223372036854775808 ≤ c) (c2 : c ≤ 9223372036854775807) (e : Int) (e1 : -9223372036854775808 ≤ e) (e2 : e ≤ 9223372036854775807) (hj : pickedF e 4 = 2) : VP Tryd.prog G 11 [.v (.int .i64 a), .v (.int .i64 b), .v (.string s), .v (.int .i64 c), .v (.int .i64 e)] (.v (.bool true)) := by
  refine VC.body Tryd.func11 rfl Tryd.ntmps11 (Nat.le_of_ble_eq_true rfl) fun X0 w0 S00 => ?_
  have hmx : maxLen = 9223372036854775807 := rfl
  have hl2 : ([(numV (pickedF a 12)), (numV (pickedF b 9)), kindV 2, (truthF c)]).length = 4 := rfl
  have f0 : fitV 0 ⟨⟨#[105, 100]⟩, 2⟩ (numV (pickedF a 12)) = 0 := fit_ok (ck_num _) (.inl rfl)
  have f1 : fitV 1 ⟨⟨#[110]⟩, 2⟩ (numV (pickedF b 9)) = 0 := fit_ok (ck_num _) (.inl rfl)
  have f3 : fitV 3 ⟨⟨#[98]⟩, 1⟩ (truthF c) = 0 := fit_ok (ck_truth _) ((k_truth c).elim (fun h => .inr ⟨h, by decide⟩) .inl)
  have g1 : fitV 2 ⟨⟨#[115]⟩, 3⟩ noVl = 0 := fit_ok ck_no (.inr ⟨rfl, by decide⟩)
  have g2 : fitV 2 ⟨⟨#[115]⟩, 3⟩ (kindV 2) = 4 := fit_bad (ck_kind (by decide)) (by decide) (.inr (by decide))
  have r1 : rowF colsL [(numV (pickedF a 12)), (numV (pickedF b 9)), noVl, (truthF c)] = 0 := by rw [row_4]; simp [rowA, colsL, f0, f1, f3, g1]
  have r2 : rowF colsL [(numV (pickedF a 12)), (numV (pickedF b 9)), kindV 2, (truthF c)] = 4 := by rw [row_4]; simp [rowA, colsL, f0, f1, f3, g2]
  have r3 : rowF colsL [(numV (pickedF a 12)), (numV (pickedF b 9)), kindV 2] = 1 := row_3 _ _ _
  have hr1 := Row_vp hm hw ht colsL (by decide) cols_sz [(numV (pickedF a 12)), (numV (pickedF b 9)), noVl, (truthF c)] (show List.length [(numV (pickedF a 12)), (numV (pickedF b 9)), noVl, (truthF c)] ≤ maxLen by exact Nat.le_trans (show List.length [(numV (pickedF a 12)), (numV (pickedF b 9)), noVl, (truthF c)] ≤ 4 by simp) (by decide))
  rw [r1] at hr1
  have hr2 := Row_vp hm hw ht colsL (by decide) cols_sz [(numV (pickedF a 12)), (numV (pickedF b 9)), kindV 2, (truthF c)] (show List.length [(numV (pickedF a 12)), (numV (pickedF b 9)), kindV 2, (truthF c)] ≤ maxLen by exact Nat.le_trans (show List.length [(numV (pickedF a 12)), (numV (pickedF b 9)), kindV 2, (truthF c)] ≤ 4 by simp) (by decide))
  rw [r2] at hr2
  have hr3 := Row_vp hm hw ht colsL (by decide) cols_sz [(numV (pickedF a 12)), (numV (pickedF b 9)), kindV 2] (show List.length [(numV (pickedF a 12)), (numV (pickedF b 9)), kindV 2] ≤ maxLen by exact Nat.le_trans (show List.length [(numV (pickedF a 12)), (numV (pickedF b 9)), kindV 2] ≤ 4 by simp) (by decide))
  rw [r3] at hr3
  have hp := picked_vp (G := G) e 4 e1 e2 (by decide)
  rw [hj] at hp
  refine CD.seq ?_
  refine CD.region ?_
  refine OD.still (wants_plain rfl) rfl (still_as rfl opd_const) ?_
  refine OD.wk (Wk.as_ (n := 66) (l' := [(0, _), (1, _), (2, _), (3, _), (4, _)]) (S' := []) rfl rfl ⟨lk, lk, lk, lk, lk, trivial⟩) ?_
  refine OD.nil ?_
  refine CD.seq ?_
  refine CD.region ?_
  refine OD.still (wants_plain rfl) rfl (still_mv rfl ot) ?_
  refine OD.callP (wants_plain rfl) rfl rfl rfl Tryd.call15 (hp) ⟨ot, opd_const, trivial⟩ ?_
  refine OD.still (wants_plain rfl) rfl (still_as rfl ot) ?_
  refine OD.wk (Wk.as_ (n := 66) (l' := [(0, _), (1, _), (2, _), (3, _), (11, _)]) (S' := []) rfl rfl ⟨lk, lk, lk, lk, lk, trivial⟩) ?_
  refine OD.nil ?_
  refine CD.seq ?_
  refine CD.region ?_
  refine OD.still (wants_plain rfl) rfl (still_mv rfl ot) ?_
  refine OD.still (wants_plain rfl) rfl (still_mv rfl ot) ?_
  refine OD.still (wants_plain rfl) rfl (still_mv rfl ot) ?_
  refine OD.still (wants_plain rfl) rfl (still_mv rfl ot) ?_
  refine OD.call (wants_plain rfl) rfl rfl rfl Tryd.call22 (rowOf_vc a a1 a2 b b1 b2 s hs c c1 c2) ⟨ot, ot, ot, ot, trivial⟩ (perm_none _) ?_; rintro _ _ ⟨b22, rfl, rfl⟩
  refine OD.still (wants_plain rfl) rfl (still_as rfl ot) ?_
  refine OD.wk (Wk.as_ (n := 66) (l' := [(11, _), (12, _)]) (S' := [⟨b22, 30, 12, [_, _, _, _, _, _, _, _, _, _, _, _]⟩]) rfl rfl ⟨lk, lk, trivial⟩) ?_
  refine OD.nil ?_
  refine CD.seq ?_
  refine CD.region ?_
  refine OD.still (wants_plain rfl) rfl (still_mv rfl ot) ?_
  refine OD.still (wants_plain rfl) rfl (still_mv rfl ot) ?_
  refine OD.still (wants_plain rfl) rfl (still_bld (pl := []) (ds := [_, _, _]) rfl Tryd.zeroValue30 Tryd.runUnderlying30 places30_Pc5 trivial rfl rfl) ?_
  refine OD.still (wants_plain rfl) rfl (still_r2 (mk := Op.indexAddr 23) rfl ot ot (by first | exact ix_list Tryd.runUnderlying23 Tryd.sizeOf30 rfl (by first | assumption | omega) | exact ix_list (j := Int.toNat _) Tryd.runUnderlying23 Tryd.sizeOf30 (Int.toNat_of_nonneg (by omega)).symm (by omega) | exact ix_row Tryd.runUnderlying23 Tryd.sizeOf30 rfl (by first | assumption | omega) | exact ix_row (j := Int.toNat _) Tryd.runUnderlying23 Tryd.sizeOf30 (Int.toNat_of_nonneg (by omega)).symm (by omega))) ?_
  refine OD.storeAt (k := 0) (cs' := [(numV (pickedF a 12)), (numV (pickedF b 9)), noVl, (truthF c)].flatMap cV) (wants_plain rfl) rfl rfl ot rfl rfl ot rfl rfl Tryd.sizeOf30 rfl (Nat.le_of_ble_eq_true rfl) rfl ?_
  refine OD.wk (Wk.as_ (n := 66) (l' := [(11, _), (12, _)]) (S' := [⟨b22, 30, 12, [_, _, _, _, _, _, _, _, _, _, _, _]⟩]) rfl rfl ⟨lk, lk, trivial⟩) ?_
  refine OD.nil ?_
  refine CD.seq ?_
  refine CD.region ?_
  refine OD.callP (wants_plain rfl) rfl rfl rfl Tryd.call24 (colsOf_vp) trivial ?_
  refine OD.still (wants_plain rfl) rfl (still_mv rfl ot) ?_
  refine OD.look (wants_plain rfl) rfl rfl rfl Tryd.call23 (hr1) rfl ⟨⟨_, ot, view_same⟩, ⟨_, ot, (view_row (k := 0) (cs := [(numV (pickedF a 12)), (numV (pickedF b 9)), noVl, (truthF c)].flatMap cV) rfl rfl rfl rfl (Nat.le_refl _) (show 4 ≤ maxLen by decide))⟩, trivial⟩ ?_
  refine OD.still (wants_plain rfl) rfl (still_as rfl ot) ?_
  refine OD.wk (Wk.as_ (n := 66) (l' := [(11, _), (12, _), (13, _)]) (S' := [⟨b22, 30, 12, [_, _, _, _, _, _, _, _, _, _, _, _]⟩]) rfl rfl ⟨lk, lk, lk, trivial⟩) ?_
  refine OD.nil ?_
  refine CD.seq ?_
  refine CD.region ?_
  refine OD.still (wants_plain rfl) rfl (still_mv rfl ot) ?_
  refine OD.still (wants_plain rfl) rfl (still_mv rfl ot) ?_
  refine OD.bldS (pl := [(0, _), (1, _), (2, _), (3, _)]) (zvs := [.int .i64 0, .int .i64 0, .int .i64 0, .int .i64 0]) (ds := [_, _, _, _]) (wants_plain rfl) rfl rfl Tryd.zeroValue3 Tryd.runUnderlying58 Tryd.sizeOf3 rfl rfl (by kernel_rfl) ⟨rfl, opd_const, rfl, opd_const, rfl, opd_const, rfl, opd_const, trivial⟩ rfl rfl (fun b32 => ?_)
  refine OD.still (wants_plain rfl) rfl (still_mv rfl ot) ?_
  refine OD.still (wants_plain rfl) rfl (still_r2 (mk := Op.indexAddr 58) rfl ot ot (by first | exact ix_list Tryd.runUnderlying58 Tryd.sizeOf3 rfl (by first | assumption | omega) | exact ix_list (j := Int.toNat _) Tryd.runUnderlying58 Tryd.sizeOf3 (Int.toNat_of_nonneg (by omega)).symm (by omega) | exact ix_row Tryd.runUnderlying58 Tryd.sizeOf3 rfl (by first | assumption | omega) | exact ix_row (j := Int.toNat _) Tryd.runUnderlying58 Tryd.sizeOf3 (Int.toNat_of_nonneg (by omega)).symm (by omega))) ?_
  refine OD.still (wants_plain rfl) rfl (still_r1 (mk := Op.load 3) rfl ot (ld_blk (k := 0) rfl rfl Tryd.isAgg3 rfl)) ?_
  refine OD.still (wants_plain rfl) rfl (still_bld (pl := [(0, _)]) (ds := [_, _, _]) rfl Tryd.zeroValue30 Tryd.runUnderlying30 places30_Pc5 ⟨rfl, ot, trivial⟩ rfl rfl) ?_
  refine OD.still (wants_plain rfl) rfl (still_r2 (mk := Op.indexAddr 23) rfl ot ot (by first | exact ix_list Tryd.runUnderlying23 Tryd.sizeOf30 rfl (by first | assumption | omega) | exact ix_list (j := Int.toNat _) Tryd.runUnderlying23 Tryd.sizeOf30 (Int.toNat_of_nonneg (by omega)).symm (by omega) | exact ix_row Tryd.runUnderlying23 Tryd.sizeOf30 rfl (by first | assumption | omega) | exact ix_row (j := Int.toNat _) Tryd.runUnderlying23 Tryd.sizeOf30 (Int.toNat_of_nonneg (by omega)).symm (by omega))) ?_
  refine OD.storeAt (k := 1) (cs' := [(numV (pickedF a 12)), (numV (pickedF b 9)), kindV 2, (truthF c)].flatMap cV) (wants_plain rfl) rfl rfl ot rfl rfl ot rfl rfl Tryd.sizeOf30 rfl (Nat.le_of_ble_eq_true rfl) rfl ?_
  refine OD.wk (Wk.as_ (n := 66) (l' := [(11, _), (12, _), (13, _)]) (S' := [⟨b32, 3, 4, [_, _, _, _]⟩, ⟨b22, 30, 12, [_, _, _, _, _, _, _, _, _, _, _, _]⟩]) rfl rfl ⟨lk, lk, lk, trivial⟩) ?_
  refine OD.nil ?_
  refine CD.seq ?_
  refine CD.region ?_
  refine OD.callP (wants_plain rfl) rfl rfl rfl Tryd.call24 (colsOf_vp) trivial ?_
  refine OD.still (wants_plain rfl) rfl (still_mv rfl ot) ?_
  refine OD.look (wants_plain rfl) rfl rfl rfl Tryd.call23 (hr2) rfl ⟨⟨_, ot, view_same⟩, ⟨_, ot, (view_row (k := 1) (cs := [(numV (pickedF a 12)), (numV (pickedF b 9)), kindV 2, (truthF c)].flatMap cV) rfl rfl rfl rfl (Nat.le_refl _) (show 4 ≤ maxLen by decide))⟩, trivial⟩ ?_
  refine OD.still (wants_plain rfl) rfl (still_as rfl ot) ?_
  refine OD.wk (Wk.as_ (n := 66) (l' := [(11, _), (12, _), (13, _), (14, _)]) (S' := [⟨b32, 3, 4, [_, _, _, _]⟩, ⟨b22, 30, 12, [_, _, _, _, _, _, _, _, _, _, _, _]⟩]) rfl rfl ⟨lk, lk, lk, lk, trivial⟩) ?_
  refine OD.nil ?_
  refine CD.seq ?_
  refine CD.wk (Wk.give (k := 1) (t := 12) (sz := 3) (m := ([(numV (pickedF a 12)), (numV (pickedF b 9)), kindV 2, (truthF c)]).length) (cap := ([(numV (pickedF a 12)), (numV (pickedF b 9)), kindV 2, (truthF c)]).length) (cs := ([(numV (pickedF a 12)), (numV (pickedF b 9)), kindV 2, (truthF c)].flatMap cV)) rfl lk rfl rfl (Nat.le_refl _) (show 4 ≤ maxLen by decide)) ?_
  refine CD.draw (bks _) (by kernel_rfl) (fun _ h => h) ?_
  refine AD0.take (i := 1) rfl (by kernel_rfl) (by kernel_rfl) (by kernel_rfl) (by repeat (first | exact NP.body | apply NP.then | apply NP.cut | apply NP.inBlock | apply NP.round)) (wants_plain rfl) rfl (still_mv rfl ot) (by exact trivial) ?_
  refine AD0.take (i := 2) rfl (by kernel_rfl) (by kernel_rfl) (by kernel_rfl) (by repeat (first | exact NP.body | apply NP.then | apply NP.cut | apply NP.inBlock | apply NP.round)) (wants_plain rfl) rfl (still_rs (l := 0) (h := 3) rfl ot trivial ⟨_, opd_const⟩ (by first | exact sl_head cC_len (fun h => by cases h) Tryd.runUnderlying23 Tryd.sizeOf30 (by omega) | exact sl_head cV_len (fun h => by cases h) Tryd.runUnderlying23 Tryd.sizeOf30 (by omega) | exact sl_row (fun h => by cases h) Tryd.runUnderlying23 Tryd.sizeOf30 (by omega) | exact sl_list (fun _ => rfl) (fun h => by cases h) Tryd.runUnderlying23 Tryd.sizeOf30 (by omega) (by omega))) (by exact trivial) ?_
  refine AD0.later rfl ?_
  refine AD.one (i := 0) (by kernel_rfl) ?_
  refine AStep.callP rfl (wants_plain rfl) rfl rfl rfl Tryd.call24 (colsOf_vp) trivial ?_
  refine AD.one (i := 3) (by kernel_rfl) ?_
  refine AStep.callP rfl (wants_plain rfl) rfl rfl rfl Tryd.call23 (hr3) ⟨ot, ot, trivial⟩ ?_
  refine AD.take (i := 4) rfl (by kernel_rfl) (by kernel_rfl) (by kernel_rfl) (by repeat (first | exact NP.body | apply NP.then | apply NP.cut | apply NP.inBlock | apply NP.round)) (wants_plain rfl) rfl (still_as rfl ot) (by exact trivial) (by intro h; cases h) ?_
  refine AD.wk (y := ⟨66, [(11, _), (13, _), (14, _), (15, _)], [⟨b32, 3, 4, [_, _, _, _]⟩]⟩) (Wk.as_ rfl rfl ⟨lk, lk, lk, lk, trivial⟩) rfl ?_
  refine AD.done (by kernel_rfl) ?_
  refine CD.seq ?_
  refine CD.region ?_
  refine OD.still (wants_plain rfl) rfl (still_mv rfl ot) ?_
  refine OD.still (wants_plain rfl) rfl (still_bin rfl ot opd_const bin_eql) ?_
  refine OD.still (wants_plain rfl) rfl (still_mv rfl ot) ?_
  refine OD.still (wants_plain rfl) rfl (still_bin rfl ot opd_const bin_eql) ?_
  refine OD.still (wants_plain rfl) rfl (still_bin rfl ot ot (bin_beql Tryd.underlying4)) ?_
  refine OD.still (wants_plain rfl) rfl (still_mv rfl ot) ?_
  refine OD.split (t := 50) lk (fun hg50 => ?_) (fun hg50 => ?_)
  · have hg50' := hg50; (try simp only [decide_eq_true_eq, decide_eq_false_iff_not, beq_iff_eq, bne_iff_ne, Bool.not_eq_true', Bool.not_eq_false', Bool.not_eq_true, Bool.not_eq_false, beq_eq_false_iff_ne, ne_eq, bne_eq_false_iff_eq, Bool.and_eq_true, Bool.or_eq_true, Bool.not_not] at hg50')
    refine OD.still (wants_T rfl rfl rfl lk (by first | rfl | assumption)) rfl (still_mv rfl ot) ?_
    refine OD.still (wants_T rfl rfl rfl lk (by first | rfl | assumption)) rfl (still_bin rfl ot opd_const bin_eql) ?_
    refine OD.still (wants_T rfl rfl rfl lk (by first | rfl | assumption)) rfl (still_mv rfl ot) ?_
    refine OD.split (t := 53) lk (fun hg53 => ?_) (fun hg53 => ?_)
    · have hg53' := hg53; (try simp only [decide_eq_true_eq, decide_eq_false_iff_not, beq_iff_eq, bne_iff_ne, Bool.not_eq_true', Bool.not_eq_false', Bool.not_eq_true, Bool.not_eq_false, beq_eq_false_iff_ne, ne_eq, bne_eq_false_iff_eq, Bool.and_eq_true, Bool.or_eq_true, Bool.not_not] at hg53')
      refine OD.skip (wants_F rfl rfl rfl lk (by first | rfl | assumption)) rfl ?_
      refine OD.skip (wants_F rfl rfl rfl lk (by first | rfl | assumption)) rfl ?_
      refine OD.still (wants_T rfl rfl rfl lk (by first | rfl | assumption)) rfl (still_pickT rfl ot (by first | rfl | assumption) opd_const) ?_
      refine OD.still (wants_plain rfl) rfl (still_pickT rfl ot (by first | rfl | assumption) ot) ?_
      refine OD.still (wants_plain rfl) rfl (still_mv rfl ot) ?_
      refine OD.still (wants_T rfl rfl rfl lk (by first | rfl | assumption)) rfl (still_mv rfl ot) ?_
      refine OD.still (wants_T rfl rfl rfl lk (by first | rfl | assumption)) rfl (still_bin rfl ot opd_const bin_eql) ?_
      refine OD.still (wants_plain rfl) rfl (still_pickT rfl ot (by first | rfl | assumption) ot) ?_
      refine OD.still (wants_plain rfl) rfl (still_mv rfl ot) ?_
      refine OD.split (t := 62) lk (fun hg62 => ?_) (fun hg62 => ?_)
      · have hg62' := hg62; (try simp only [decide_eq_true_eq, decide_eq_false_iff_not, beq_iff_eq, bne_iff_ne, Bool.not_eq_true', Bool.not_eq_false', Bool.not_eq_true, Bool.not_eq_false, beq_eq_false_iff_ne, ne_eq, bne_eq_false_iff_eq, Bool.and_eq_true, Bool.or_eq_true, Bool.not_not] at hg62')
        refine OD.still (wants_T rfl rfl rfl lk (by first | rfl | assumption)) rfl (still_mv rfl ot) ?_
        refine OD.still (wants_T rfl rfl rfl lk (by first | rfl | assumption)) rfl (still_bin rfl ot opd_const bin_eql) ?_
        refine OD.still (wants_plain rfl) rfl (still_pickT rfl ot (by first | rfl | assumption) ot) ?_
        refine OD.still (wants_plain rfl) rfl (still_as rfl ot) ?_
        refine OD.wk (Wk.as_ (n := 66) (l' := [(10, _)]) (S' := [⟨b32, 3, 4, [_, _, _, _]⟩]) rfl rfl ⟨lk, trivial⟩) ?_
        refine OD.nil ?_
        refine CD.ret ?_
        refine ⟨.inr rfl, _, [], List.nil_sublist _, ret_one Tryd.results11 (res_tmp (Nat.le_of_ble_eq_true rfl) lk), ?_⟩
        first | exact ⟨rfl, rfl⟩ | (refine ⟨vb ?_, rfl⟩; simp; done)
      · exact absurd hg62 (by simp at hg62)
    · exact absurd hg53 (by simp at hg53)
  · exact absurd hg50 (by simp at hg50)

set_option maxHeartbeats 4000000 in
set_option maxRecDepth 100000 in
theorem rownull3_vp (hm : (1, marksC) ∈ G) (hw : (0, wordsC) ∈ G) (ht : (2, typesC) ∈ G) (a : Int) (a1 : -9223372036854775808 ≤ a) (a2 : a ≤ 9223372036854775807) (b : Int) (b1 : -9223372036854775808 ≤ b) (b2 : b ≤ 9223372036854775807) (s : ByteArray) (hs : s.size ≤ maxLen) (c : Int) (c1 : -9223372036854775808 ≤ c) (c2 : c ≤ 9223372036854775807) (e : Int) (e1 : -9223372036854775808 ≤ e) (e2 : e ≤ 9223372036854775807) (hj : pickedF e 4 = 3) : VP Tryd.prog G 11 [.v (.int .i64 a), .v (.int .i64 b), .v (.string s), .v (.int .i64 c), .v (.int .i64 e)] (.v (.bool true)) := by
  refine VC.body Tryd.func11 rfl Tryd.ntmps11 (Nat.le_of_ble_eq_true rfl) fun X0 w0 S00 => ?_
  have hmx : maxLen = 9223372036854775807 := rfl
  have hl2 : ([(numV (pickedF a 12)), (numV (pickedF b 9)), (txtV (wordF (cutF s 2))), kindV 2]).length = 4 := rfl
  have f0 : fitV 0 ⟨⟨#[105, 100]⟩, 2⟩ (numV (pickedF a 12)) = 0 := fit_ok (ck_num _) (.inl rfl)
  have f1 : fitV 1 ⟨⟨#[110]⟩, 2⟩ (numV (pickedF b 9)) = 0 := fit_ok (ck_num _) (.inl rfl)
  have f2 : fitV 2 ⟨⟨#[115]⟩, 3⟩ (txtV (wordF (cutF s 2))) = 0 := fit_ok (ck_txt (word_small _)) (.inl rfl)
  have g1 : fitV 3 ⟨⟨#[98]⟩, 1⟩ noVl = 0 := fit_ok ck_no (.inr ⟨rfl, by decide⟩)
  have g2 : fitV 3 ⟨⟨#[98]⟩, 1⟩ (kindV 2) = 4 := fit_bad (ck_kind (by decide)) (by decide) (.inr (by decide))
  have r1 : rowF colsL [(numV (pickedF a 12)), (numV (pickedF b 9)), (txtV (wordF (cutF s 2))), noVl] = 0 := by rw [row_4]; simp [rowA, colsL, f0, f1, f2, g1]
  have r2 : rowF colsL [(numV (pickedF a 12)), (numV (pickedF b 9)), (txtV (wordF (cutF s 2))), kindV 2] = 4 := by rw [row_4]; simp [rowA, colsL, f0, f1, f2, g2]
  have r3 : rowF colsL [(numV (pickedF a 12)), (numV (pickedF b 9)), (txtV (wordF (cutF s 2)))] = 1 := row_3 _ _ _
  have hr1 := Row_vp hm hw ht colsL (by decide) cols_sz [(numV (pickedF a 12)), (numV (pickedF b 9)), (txtV (wordF (cutF s 2))), noVl] (show List.length [(numV (pickedF a 12)), (numV (pickedF b 9)), (txtV (wordF (cutF s 2))), noVl] ≤ maxLen by exact Nat.le_trans (show List.length [(numV (pickedF a 12)), (numV (pickedF b 9)), (txtV (wordF (cutF s 2))), noVl] ≤ 4 by simp) (by decide))
  rw [r1] at hr1
  have hr2 := Row_vp hm hw ht colsL (by decide) cols_sz [(numV (pickedF a 12)), (numV (pickedF b 9)), (txtV (wordF (cutF s 2))), kindV 2] (show List.length [(numV (pickedF a 12)), (numV (pickedF b 9)), (txtV (wordF (cutF s 2))), kindV 2] ≤ maxLen by exact Nat.le_trans (show List.length [(numV (pickedF a 12)), (numV (pickedF b 9)), (txtV (wordF (cutF s 2))), kindV 2] ≤ 4 by simp) (by decide))
  rw [r2] at hr2
  have hr3 := Row_vp hm hw ht colsL (by decide) cols_sz [(numV (pickedF a 12)), (numV (pickedF b 9)), (txtV (wordF (cutF s 2)))] (show List.length [(numV (pickedF a 12)), (numV (pickedF b 9)), (txtV (wordF (cutF s 2)))] ≤ maxLen by exact Nat.le_trans (show List.length [(numV (pickedF a 12)), (numV (pickedF b 9)), (txtV (wordF (cutF s 2)))] ≤ 4 by simp) (by decide))
  rw [r3] at hr3
  have hp := picked_vp (G := G) e 4 e1 e2 (by decide)
  rw [hj] at hp
  refine CD.seq ?_
  refine CD.region ?_
  refine OD.still (wants_plain rfl) rfl (still_as rfl opd_const) ?_
  refine OD.wk (Wk.as_ (n := 66) (l' := [(0, _), (1, _), (2, _), (3, _), (4, _)]) (S' := []) rfl rfl ⟨lk, lk, lk, lk, lk, trivial⟩) ?_
  refine OD.nil ?_
  refine CD.seq ?_
  refine CD.region ?_
  refine OD.still (wants_plain rfl) rfl (still_mv rfl ot) ?_
  refine OD.callP (wants_plain rfl) rfl rfl rfl Tryd.call15 (hp) ⟨ot, opd_const, trivial⟩ ?_
  refine OD.still (wants_plain rfl) rfl (still_as rfl ot) ?_
  refine OD.wk (Wk.as_ (n := 66) (l' := [(0, _), (1, _), (2, _), (3, _), (11, _)]) (S' := []) rfl rfl ⟨lk, lk, lk, lk, lk, trivial⟩) ?_
  refine OD.nil ?_
  refine CD.seq ?_
  refine CD.region ?_
  refine OD.still (wants_plain rfl) rfl (still_mv rfl ot) ?_
  refine OD.still (wants_plain rfl) rfl (still_mv rfl ot) ?_
  refine OD.still (wants_plain rfl) rfl (still_mv rfl ot) ?_
  refine OD.still (wants_plain rfl) rfl (still_mv rfl ot) ?_
  refine OD.call (wants_plain rfl) rfl rfl rfl Tryd.call22 (rowOf_vc a a1 a2 b b1 b2 s hs c c1 c2) ⟨ot, ot, ot, ot, trivial⟩ (perm_none _) ?_; rintro _ _ ⟨b22, rfl, rfl⟩
  refine OD.still (wants_plain rfl) rfl (still_as rfl ot) ?_
  refine OD.wk (Wk.as_ (n := 66) (l' := [(11, _), (12, _)]) (S' := [⟨b22, 30, 12, [_, _, _, _, _, _, _, _, _, _, _, _]⟩]) rfl rfl ⟨lk, lk, trivial⟩) ?_
  refine OD.nil ?_
  refine CD.seq ?_
  refine CD.region ?_
  refine OD.still (wants_plain rfl) rfl (still_mv rfl ot) ?_
  refine OD.still (wants_plain rfl) rfl (still_mv rfl ot) ?_
  refine OD.still (wants_plain rfl) rfl (still_bld (pl := []) (ds := [_, _, _]) rfl Tryd.zeroValue30 Tryd.runUnderlying30 places30_Pc5 trivial rfl rfl) ?_
  refine OD.still (wants_plain rfl) rfl (still_r2 (mk := Op.indexAddr 23) rfl ot ot (by first | exact ix_list Tryd.runUnderlying23 Tryd.sizeOf30 rfl (by first | assumption | omega) | exact ix_list (j := Int.toNat _) Tryd.runUnderlying23 Tryd.sizeOf30 (Int.toNat_of_nonneg (by omega)).symm (by omega) | exact ix_row Tryd.runUnderlying23 Tryd.sizeOf30 rfl (by first | assumption | omega) | exact ix_row (j := Int.toNat _) Tryd.runUnderlying23 Tryd.sizeOf30 (Int.toNat_of_nonneg (by omega)).symm (by omega))) ?_
  refine OD.storeAt (k := 0) (cs' := [(numV (pickedF a 12)), (numV (pickedF b 9)), (txtV (wordF (cutF s 2))), noVl].flatMap cV) (wants_plain rfl) rfl rfl ot rfl rfl ot rfl rfl Tryd.sizeOf30 rfl (Nat.le_of_ble_eq_true rfl) rfl ?_
  refine OD.wk (Wk.as_ (n := 66) (l' := [(11, _), (12, _)]) (S' := [⟨b22, 30, 12, [_, _, _, _, _, _, _, _, _, _, _, _]⟩]) rfl rfl ⟨lk, lk, trivial⟩) ?_
  refine OD.nil ?_
  refine CD.seq ?_
  refine CD.region ?_
  refine OD.callP (wants_plain rfl) rfl rfl rfl Tryd.call24 (colsOf_vp) trivial ?_
  refine OD.still (wants_plain rfl) rfl (still_mv rfl ot) ?_
  refine OD.look (wants_plain rfl) rfl rfl rfl Tryd.call23 (hr1) rfl ⟨⟨_, ot, view_same⟩, ⟨_, ot, (view_row (k := 0) (cs := [(numV (pickedF a 12)), (numV (pickedF b 9)), (txtV (wordF (cutF s 2))), noVl].flatMap cV) rfl rfl rfl rfl (Nat.le_refl _) (show 4 ≤ maxLen by decide))⟩, trivial⟩ ?_
  refine OD.still (wants_plain rfl) rfl (still_as rfl ot) ?_
  refine OD.wk (Wk.as_ (n := 66) (l' := [(11, _), (12, _), (13, _)]) (S' := [⟨b22, 30, 12, [_, _, _, _, _, _, _, _, _, _, _, _]⟩]) rfl rfl ⟨lk, lk, lk, trivial⟩) ?_
  refine OD.nil ?_
  refine CD.seq ?_
  refine CD.region ?_
  refine OD.still (wants_plain rfl) rfl (still_mv rfl ot) ?_
  refine OD.still (wants_plain rfl) rfl (still_mv rfl ot) ?_
  refine OD.bldS (pl := [(0, _), (1, _), (2, _), (3, _)]) (zvs := [.int .i64 0, .int .i64 0, .int .i64 0, .int .i64 0]) (ds := [_, _, _, _]) (wants_plain rfl) rfl rfl Tryd.zeroValue3 Tryd.runUnderlying58 Tryd.sizeOf3 rfl rfl (by kernel_rfl) ⟨rfl, opd_const, rfl, opd_const, rfl, opd_const, rfl, opd_const, trivial⟩ rfl rfl (fun b32 => ?_)
  refine OD.still (wants_plain rfl) rfl (still_mv rfl ot) ?_
  refine OD.still (wants_plain rfl) rfl (still_r2 (mk := Op.indexAddr 58) rfl ot ot (by first | exact ix_list Tryd.runUnderlying58 Tryd.sizeOf3 rfl (by first | assumption | omega) | exact ix_list (j := Int.toNat _) Tryd.runUnderlying58 Tryd.sizeOf3 (Int.toNat_of_nonneg (by omega)).symm (by omega) | exact ix_row Tryd.runUnderlying58 Tryd.sizeOf3 rfl (by first | assumption | omega) | exact ix_row (j := Int.toNat _) Tryd.runUnderlying58 Tryd.sizeOf3 (Int.toNat_of_nonneg (by omega)).symm (by omega))) ?_
  refine OD.still (wants_plain rfl) rfl (still_r1 (mk := Op.load 3) rfl ot (ld_blk (k := 0) rfl rfl Tryd.isAgg3 rfl)) ?_
  refine OD.still (wants_plain rfl) rfl (still_bld (pl := [(0, _)]) (ds := [_, _, _]) rfl Tryd.zeroValue30 Tryd.runUnderlying30 places30_Pc5 ⟨rfl, ot, trivial⟩ rfl rfl) ?_
  refine OD.still (wants_plain rfl) rfl (still_r2 (mk := Op.indexAddr 23) rfl ot ot (by first | exact ix_list Tryd.runUnderlying23 Tryd.sizeOf30 rfl (by first | assumption | omega) | exact ix_list (j := Int.toNat _) Tryd.runUnderlying23 Tryd.sizeOf30 (Int.toNat_of_nonneg (by omega)).symm (by omega) | exact ix_row Tryd.runUnderlying23 Tryd.sizeOf30 rfl (by first | assumption | omega) | exact ix_row (j := Int.toNat _) Tryd.runUnderlying23 Tryd.sizeOf30 (Int.toNat_of_nonneg (by omega)).symm (by omega))) ?_
  refine OD.storeAt (k := 1) (cs' := [(numV (pickedF a 12)), (numV (pickedF b 9)), (txtV (wordF (cutF s 2))), kindV 2].flatMap cV) (wants_plain rfl) rfl rfl ot rfl rfl ot rfl rfl Tryd.sizeOf30 rfl (Nat.le_of_ble_eq_true rfl) rfl ?_
  refine OD.wk (Wk.as_ (n := 66) (l' := [(11, _), (12, _), (13, _)]) (S' := [⟨b32, 3, 4, [_, _, _, _]⟩, ⟨b22, 30, 12, [_, _, _, _, _, _, _, _, _, _, _, _]⟩]) rfl rfl ⟨lk, lk, lk, trivial⟩) ?_
  refine OD.nil ?_
  refine CD.seq ?_
  refine CD.region ?_
  refine OD.callP (wants_plain rfl) rfl rfl rfl Tryd.call24 (colsOf_vp) trivial ?_
  refine OD.still (wants_plain rfl) rfl (still_mv rfl ot) ?_
  refine OD.look (wants_plain rfl) rfl rfl rfl Tryd.call23 (hr2) rfl ⟨⟨_, ot, view_same⟩, ⟨_, ot, (view_row (k := 1) (cs := [(numV (pickedF a 12)), (numV (pickedF b 9)), (txtV (wordF (cutF s 2))), kindV 2].flatMap cV) rfl rfl rfl rfl (Nat.le_refl _) (show 4 ≤ maxLen by decide))⟩, trivial⟩ ?_
  refine OD.still (wants_plain rfl) rfl (still_as rfl ot) ?_
  refine OD.wk (Wk.as_ (n := 66) (l' := [(11, _), (12, _), (13, _), (14, _)]) (S' := [⟨b32, 3, 4, [_, _, _, _]⟩, ⟨b22, 30, 12, [_, _, _, _, _, _, _, _, _, _, _, _]⟩]) rfl rfl ⟨lk, lk, lk, lk, trivial⟩) ?_
  refine OD.nil ?_
  refine CD.seq ?_
  refine CD.wk (Wk.give (k := 1) (t := 12) (sz := 3) (m := ([(numV (pickedF a 12)), (numV (pickedF b 9)), (txtV (wordF (cutF s 2))), kindV 2]).length) (cap := ([(numV (pickedF a 12)), (numV (pickedF b 9)), (txtV (wordF (cutF s 2))), kindV 2]).length) (cs := ([(numV (pickedF a 12)), (numV (pickedF b 9)), (txtV (wordF (cutF s 2))), kindV 2].flatMap cV)) rfl lk rfl rfl (Nat.le_refl _) (show 4 ≤ maxLen by decide)) ?_
  refine CD.draw (bks _) (by kernel_rfl) (fun _ h => h) ?_
  refine AD0.take (i := 1) rfl (by kernel_rfl) (by kernel_rfl) (by kernel_rfl) (by repeat (first | exact NP.body | apply NP.then | apply NP.cut | apply NP.inBlock | apply NP.round)) (wants_plain rfl) rfl (still_mv rfl ot) (by exact trivial) ?_
  refine AD0.take (i := 2) rfl (by kernel_rfl) (by kernel_rfl) (by kernel_rfl) (by repeat (first | exact NP.body | apply NP.then | apply NP.cut | apply NP.inBlock | apply NP.round)) (wants_plain rfl) rfl (still_rs (l := 0) (h := 3) rfl ot trivial ⟨_, opd_const⟩ (by first | exact sl_head cC_len (fun h => by cases h) Tryd.runUnderlying23 Tryd.sizeOf30 (by omega) | exact sl_head cV_len (fun h => by cases h) Tryd.runUnderlying23 Tryd.sizeOf30 (by omega) | exact sl_row (fun h => by cases h) Tryd.runUnderlying23 Tryd.sizeOf30 (by omega) | exact sl_list (fun _ => rfl) (fun h => by cases h) Tryd.runUnderlying23 Tryd.sizeOf30 (by omega) (by omega))) (by exact trivial) ?_
  refine AD0.later rfl ?_
  refine AD.one (i := 0) (by kernel_rfl) ?_
  refine AStep.callP rfl (wants_plain rfl) rfl rfl rfl Tryd.call24 (colsOf_vp) trivial ?_
  refine AD.one (i := 3) (by kernel_rfl) ?_
  refine AStep.callP rfl (wants_plain rfl) rfl rfl rfl Tryd.call23 (hr3) ⟨ot, ot, trivial⟩ ?_
  refine AD.take (i := 4) rfl (by kernel_rfl) (by kernel_rfl) (by kernel_rfl) (by repeat (first | exact NP.body | apply NP.then | apply NP.cut | apply NP.inBlock | apply NP.round)) (wants_plain rfl) rfl (still_as rfl ot) (by exact trivial) (by intro h; cases h) ?_
  refine AD.wk (y := ⟨66, [(11, _), (13, _), (14, _), (15, _)], [⟨b32, 3, 4, [_, _, _, _]⟩]⟩) (Wk.as_ rfl rfl ⟨lk, lk, lk, lk, trivial⟩) rfl ?_
  refine AD.done (by kernel_rfl) ?_
  refine CD.seq ?_
  refine CD.region ?_
  refine OD.still (wants_plain rfl) rfl (still_mv rfl ot) ?_
  refine OD.still (wants_plain rfl) rfl (still_bin rfl ot opd_const bin_eql) ?_
  refine OD.still (wants_plain rfl) rfl (still_mv rfl ot) ?_
  refine OD.still (wants_plain rfl) rfl (still_bin rfl ot opd_const bin_eql) ?_
  refine OD.still (wants_plain rfl) rfl (still_bin rfl ot ot (bin_beql Tryd.underlying4)) ?_
  refine OD.still (wants_plain rfl) rfl (still_mv rfl ot) ?_
  refine OD.split (t := 50) lk (fun hg50 => ?_) (fun hg50 => ?_)
  · have hg50' := hg50; (try simp only [decide_eq_true_eq, decide_eq_false_iff_not, beq_iff_eq, bne_iff_ne, Bool.not_eq_true', Bool.not_eq_false', Bool.not_eq_true, Bool.not_eq_false, beq_eq_false_iff_ne, ne_eq, bne_eq_false_iff_eq, Bool.and_eq_true, Bool.or_eq_true, Bool.not_not] at hg50')
    refine OD.still (wants_T rfl rfl rfl lk (by first | rfl | assumption)) rfl (still_mv rfl ot) ?_
    refine OD.still (wants_T rfl rfl rfl lk (by first | rfl | assumption)) rfl (still_bin rfl ot opd_const bin_eql) ?_
    refine OD.still (wants_T rfl rfl rfl lk (by first | rfl | assumption)) rfl (still_mv rfl ot) ?_
    refine OD.split (t := 53) lk (fun hg53 => ?_) (fun hg53 => ?_)
    · have hg53' := hg53; (try simp only [decide_eq_true_eq, decide_eq_false_iff_not, beq_iff_eq, bne_iff_ne, Bool.not_eq_true', Bool.not_eq_false', Bool.not_eq_true, Bool.not_eq_false, beq_eq_false_iff_ne, ne_eq, bne_eq_false_iff_eq, Bool.and_eq_true, Bool.or_eq_true, Bool.not_not] at hg53')
      refine OD.skip (wants_F rfl rfl rfl lk (by first | rfl | assumption)) rfl ?_
      refine OD.skip (wants_F rfl rfl rfl lk (by first | rfl | assumption)) rfl ?_
      refine OD.still (wants_T rfl rfl rfl lk (by first | rfl | assumption)) rfl (still_pickT rfl ot (by first | rfl | assumption) opd_const) ?_
      refine OD.still (wants_plain rfl) rfl (still_pickT rfl ot (by first | rfl | assumption) ot) ?_
      refine OD.still (wants_plain rfl) rfl (still_mv rfl ot) ?_
      refine OD.still (wants_T rfl rfl rfl lk (by first | rfl | assumption)) rfl (still_mv rfl ot) ?_
      refine OD.still (wants_T rfl rfl rfl lk (by first | rfl | assumption)) rfl (still_bin rfl ot opd_const bin_eql) ?_
      refine OD.still (wants_plain rfl) rfl (still_pickT rfl ot (by first | rfl | assumption) ot) ?_
      refine OD.still (wants_plain rfl) rfl (still_mv rfl ot) ?_
      refine OD.split (t := 62) lk (fun hg62 => ?_) (fun hg62 => ?_)
      · have hg62' := hg62; (try simp only [decide_eq_true_eq, decide_eq_false_iff_not, beq_iff_eq, bne_iff_ne, Bool.not_eq_true', Bool.not_eq_false', Bool.not_eq_true, Bool.not_eq_false, beq_eq_false_iff_ne, ne_eq, bne_eq_false_iff_eq, Bool.and_eq_true, Bool.or_eq_true, Bool.not_not] at hg62')
        refine OD.still (wants_T rfl rfl rfl lk (by first | rfl | assumption)) rfl (still_mv rfl ot) ?_
        refine OD.still (wants_T rfl rfl rfl lk (by first | rfl | assumption)) rfl (still_bin rfl ot opd_const bin_eql) ?_
        refine OD.still (wants_plain rfl) rfl (still_pickT rfl ot (by first | rfl | assumption) ot) ?_
        refine OD.still (wants_plain rfl) rfl (still_as rfl ot) ?_
        refine OD.wk (Wk.as_ (n := 66) (l' := [(10, _)]) (S' := [⟨b32, 3, 4, [_, _, _, _]⟩]) rfl rfl ⟨lk, trivial⟩) ?_
        refine OD.nil ?_
        refine CD.ret ?_
        refine ⟨.inr rfl, _, [], List.nil_sublist _, ret_one Tryd.results11 (res_tmp (Nat.le_of_ble_eq_true rfl) lk), ?_⟩
        first | exact ⟨rfl, rfl⟩ | (refine ⟨vb ?_, rfl⟩; simp; done)
      · exact absurd hg62 (by simp at hg62)
    · exact absurd hg53 (by simp at hg53)
  · exact absurd hg50 (by simp at hg50)

end Go.Proofs.YtoemmoeedhllfaaDoor.Pc

namespace Go.Proofs.YtoemmoeedhllfaaDoor.Pc
open Go.RowKit V Pk Vl Go.Proofs.YtoemmoeedhllfaaDoor.Nm
set_option linter.unusedVariables false
set_option linter.unusedSimpArgs false

def typesB : List (List UInt8) := [[], [66, 79, 79, 76], [73, 78, 84], [84, 69, 88, 84]]
abbrev TypesTab (w : World) : Prop := Tab.TabAt w 2 typesC
abbrev TG : List (Nat × List Value) := [(1, marksC), (0, wordsC), (2, typesC)]
theorem tg_ok {w : World} (h1 : MarksTab w) (h2 : WordsTab w) (h3 : TypesTab w) : ∀ g ∈ TG, g.2 ≠ [] ∧ Tab.TabAt w g.1 g.2 := fun g hg => by
  simp only [TG, List.mem_cons, List.not_mem_nil, or_false] at hg
  rcases hg with rfl | rfl | rfl
  · exact ⟨by decide, h1⟩
  · exact ⟨by decide, h2⟩
  · exact ⟨by decide, h3⟩
theorem tg1 : (1, marksC) ∈ TG := List.mem_cons_self
theorem tg2 : (0, wordsC) ∈ TG := List.mem_cons_of_mem _ List.mem_cons_self
theorem tg3 : (2, typesC) ∈ TG := List.mem_cons_of_mem _ (List.mem_cons_of_mem _ List.mem_cons_self)
theorem rownull_vp (a : Int) (a1 : -9223372036854775808 ≤ a) (a2 : a ≤ 9223372036854775807) (b : Int) (b1 : -9223372036854775808 ≤ b) (b2 : b ≤ 9223372036854775807) (s : ByteArray) (hs : s.size ≤ maxLen) (c : Int) (c1 : -9223372036854775808 ≤ c) (c2 : c ≤ 9223372036854775807) (e : Int) (e1 : -9223372036854775808 ≤ e) (e2 : e ≤ 9223372036854775807) :
    VP Tryd.prog TG 11 [.v (.int .i64 a), .v (.int .i64 b), .v (.string s), .v (.int .i64 c), .v (.int .i64 e)] (.v (.bool true)) := by
  have h := pickedF_bd e (show (1 : Int) ≤ 4 by decide)
  have h4 : pickedF e 4 = 0 ∨ pickedF e 4 = 1 ∨ pickedF e 4 = 2 ∨ pickedF e 4 = 3 := by omega
  rcases h4 with hj | hj | hj | hj
  · exact rownull0_vp tg1 tg2 tg3 a a1 a2 b b1 b2 s hs c c1 c2 e e1 e2 hj
  · exact rownull1_vp tg1 tg2 tg3 a a1 a2 b b1 b2 s hs c c1 c2 e e1 e2 hj
  · exact rownull2_vp tg1 tg2 tg3 a a1 a2 b b1 b2 s hs c c1 c2 e e1 e2 hj
  · exact rownull3_vp tg1 tg2 tg3 a a1 a2 b b1 b2 s hs c c1 c2 e e1 e2 hj
theorem walkRowNull (a : Int) (wa : (Lit.int .i64 a).wf = true) (b : Int) (wb : (Lit.int .i64 b).wf = true) (s : ByteArray) (ws : s.size ≤ maxLen) (c : Int) (wc : (Lit.int .i64 c).wf = true) (e : Int) (we : (Lit.int .i64 e).wf = true) (w : World) (h1 : MarksTab w) (h2 : WordsTab w) (h3 : TypesTab w) :
    Calls Tryd.prog 11 #[.int .i64 a, .int .i64 b, .string s, .int .i64 c, .int .i64 e] w fun e w' => e = .returned (.bool true) ∧ Below w.heap.size w w' :=
  (rownull_vp a (wf_bd wa).1 (wf_bd wa).2 b (wf_bd wb).1 (wf_bd wb).2 s ws c (wf_bd wc).1 (wf_bd wc).2 e (wf_bd we).1 (wf_bd we).2).runL (tg_ok h1 h2 h3) (vs := [.int .i64 a, .int .i64 b, .string s, .int .i64 c, .int .i64 e]) (RepL.vs w _ [_, _, _, _, _])

end Go.Proofs.YtoemmoeedhllfaaDoor.Pc
