/-
  What the proof of ColsBad leans on, part 3 of 3: walks of the program's functions at the level of values, and plain facts of what they compute.
-/
import Derived.Test.YtoemmoeedhllfaaDoorPColsBad2
namespace Go.Proofs.YtoemmoeedhllfaaDoor.Pc
open Go.RowKit V Pk Vl Go.Proofs.YtoemmoeedhllfaaDoor.Nm
set_option linter.unusedVariables false
set_option linter.unusedSimpArgs false

variable {G : List (Nat × List Value)}
theorem name_t : nameF ⟨#[116]⟩ = 0 := small_name (l := [116]) (by decide) (by decide) (fun c hc => by simp only [List.mem_singleton] at hc; subst hc; decide)
theorem colsA_good : ∀ (l pre : List ColL), colsA pre l = 0 → ∀ c ∈ l, 1 ≤ c.k ∧ c.k ≤ 3
  | [], _, _, c, hc => by cases hc
  | a :: l, pre, h, c, hc => by
    have h : (if colF pre a ≠ 0 then colF pre a else colsA (pre ++ [a]) l) = 0 := h
    by_cases h0 : colF pre a = 0
    · rw [if_neg (by simp [h0])] at h
      rcases List.mem_cons.1 hc with rfl | hc
      · unfold colF at h0
        by_cases h1 : nameF c.n = 0
        · rw [if_neg (by simp [h1])] at h0
          by_cases h2 : c.k < 1 ∨ c.k > 3
          · rw [if_pos h2] at h0; cases h0
          · omega
        · rw [if_pos h1] at h0; exact absurd h0 h1
      · exact colsA_good l _ h c hc
    · rw [if_pos h0] at h; exact absurd h h0
theorem cols_good {l : List ColL} (h : colsF l = 0) : (1 ≤ l.length ∧ l.length ≤ 6) ∧ ∀ c ∈ l, 1 ≤ c.k ∧ c.k ≤ 3 := by
  unfold colsF at h
  split at h
  · cases h
  · exact ⟨by omega, colsA_good l [] h⟩

theorem places85_Pc4 : ∀ w, ((#[{ name := "Kind", type := 3, offset := 0, embedded := false, tag := "", pkgPath := "", byteOffset := 0 }, { name := "Table", type := 9, offset := 1, embedded := false, tag := "", pkgPath := "", byteOffset := 8 }, { name := "Cols", type := 56, offset := 2, embedded := false, tag := "", pkgPath := "", byteOffset := 24 }, { name := "Row", type := 23, offset := 3, embedded := false, tag := "", pkgPath := "", byteOffset := 48 }, { name := "Names", type := 41, offset := 4, embedded := false, tag := "", pkgPath := "", byteOffset := 72 }, { name := "Count", type := 4, offset := 5, embedded := false, tag := "", pkgPath := "", byteOffset := 96 }, { name := "Where", type := 48, offset := 6, embedded := false, tag := "", pkgPath := "", byteOffset := 104 }, { name := "Order", type := 9, offset := 7, embedded := false, tag := "", pkgPath := "", byteOffset := 128 }, { name := "Down", type := 4, offset := 8, embedded := false, tag := "", pkgPath := "", byteOffset := 144 }, { name := "Limit", type := 3, offset := 9, embedded := false, tag := "", pkgPath := "", byteOffset := 152 }, { name := "Set", type := 9, offset := 10, embedded := false, tag := "", pkgPath := "", byteOffset := 160 }, { name := "To", type := 48, offset := 11, embedded := false, tag := "", pkgPath := "", byteOffset := 176 }] : Array Field).mapM fun f => do pure (f.offset, ← sizeOf f.type) : Sem (Array (Nat × Nat))).run Tryd.prog w = .ok #[(0, 1), (1, 1), (2, 1), (3, 1), (4, 1), (5, 1), (6, 1), (7, 1), (8, 1), (9, 1), (10, 1), (11, 1)] w := fun w => by simp [Tryd.sizeOf23, Tryd.sizeOf3, Tryd.sizeOf4, Tryd.sizeOf41, Tryd.sizeOf48, Tryd.sizeOf56, Tryd.sizeOf9]

set_option maxHeartbeats 4000000 in
set_option maxRecDepth 100000 in
theorem check_vp (hm : (1, marksC) ∈ G) (hw : (0, wordsC) ∈ G) (l : List ColL) (hl : l.length ≤ maxLen) (hok : ∀ c ∈ l, c.n.size ≤ maxLen) : VP Tryd.prog G 57 [.agg (stD l)] (.v (.int .i64 (colsF l))) := by
  refine VC.body Tryd.func57 rfl Tryd.ntmps57 (Nat.le_of_ble_eq_true rfl) fun X0 w0 S00 => ?_
  have hmx : maxLen = 9223372036854775807 := rfl
  have hba := bare_vp (G := G) l
  unfold stD at hba
  unfold stD
  have hnv := name_vp hm hw ⟨#[116]⟩ (Nat.le_trans (show (⟨#[116]⟩ : ByteArray).size ≤ 1 from Nat.le_refl _) (by omega))
  rw [name_t] at hnv
  refine CD.seq ?_
  refine CD.region ?_
  refine OD.box (ds := [_, _, _, _, _, _, _, _, _, _, _, _]) (wants_plain rfl) rfl rfl ot rfl rfl (fun b1 => ?_)
  refine OD.still (wants_plain rfl) rfl (still_as rfl opd_const) ?_
  refine OD.wk (Wk.as_ (n := 102) (l' := [(1, _)]) (S' := [⟨b1, 85, 12, [_, _, _, _, _, _, _, _, _, _, _, _]⟩]) rfl rfl ⟨lk, trivial⟩) ?_
  refine OD.nil ?_
  refine CD.seq ?_
  refine CD.region ?_
  refine OD.still (wants_plain rfl) rfl (still_r1 (mk := fun y => Op.fieldAddr 85 y 0) rfl ot (by first | exact fa_ptr (off := 0) Tryd.runUnderlying85 rfl Tryd.sizeOf3 rfl | exact fa_iptr (off := 0) Tryd.runUnderlying85 rfl Tryd.sizeOf3 rfl)) ?_
  refine OD.still (wants_plain rfl) rfl (still_r1 (mk := Op.load 3) rfl ot (by first | exact ld_blk (k := 0) rfl rfl Tryd.isAgg3 rfl | exact ld_i Tryd.isAgg3 rfl)) ?_
  refine OD.still (wants_plain rfl) rfl (still_bld (pl := [(0, _), (9, _)]) (ds := [_, _, _, _, _, _, _, _, _, _, _, _]) rfl Tryd.zeroValue85 Tryd.runUnderlying85 places85_Pc4 ⟨rfl, ot, rfl, opd_const, trivial⟩ rfl rfl) ?_
  refine OD.alloc (ds := [_, _, _, _, _, _, _, _, _, _, _, _]) (wants_plain rfl) rfl rfl Tryd.zeroValue85 rfl (fun b3 => ?_)
  refine OD.store (k := 0) (cs' := [_, _, _, _, _, _, _, _, _, _, _, _]) (wants_plain rfl) rfl rfl ot rfl rfl ot rfl rfl Tryd.sizeOf85 rfl rfl rfl ?_
  refine OD.wk (Wk.as_ (n := 102) (l' := [(1, _), (3, _)]) (S' := [⟨b3, 85, 12, [_, _, _, _, _, _, _, _, _, _, _, _]⟩, ⟨b1, 85, 12, [_, _, _, _, _, _, _, _, _, _, _, _]⟩]) rfl rfl ⟨lk, lk, trivial⟩) ?_
  refine OD.nil ?_
  refine CD.seq ?_
  refine CD.seq ?_
  refine CD.region ?_
  refine OD.still (wants_plain rfl) rfl (still_r1 (mk := fun y => Op.fieldAddr 85 y 0) rfl ot (by first | exact fa_ptr (off := 0) Tryd.runUnderlying85 rfl Tryd.sizeOf3 rfl | exact fa_iptr (off := 0) Tryd.runUnderlying85 rfl Tryd.sizeOf3 rfl)) ?_
  refine OD.still (wants_plain rfl) rfl (still_r1 (mk := Op.load 3) rfl ot (by first | exact ld_blk (k := 1) rfl rfl Tryd.isAgg3 rfl | exact ld_i Tryd.isAgg3 rfl)) ?_
  refine OD.still (wants_plain rfl) rfl (still_bin rfl ot opd_const bin_lss) ?_
  refine OD.wk (Wk.as_ (n := 102) (l' := [(1, _), (3, _), (11, _)]) (S' := [⟨b3, 85, 12, [_, _, _, _, _, _, _, _, _, _, _, _]⟩, ⟨b1, 85, 12, [_, _, _, _, _, _, _, _, _, _, _, _]⟩]) rfl rfl ⟨lk, lk, lk, trivial⟩) ?_
  refine OD.nil ?_
  refine CD.cond ot (fun hc0 => ?_) (fun hc0 => ?_)
  · have hc0' := hc0
    (try simp only [decide_eq_true_eq, decide_eq_false_iff_not, beq_iff_eq, bne_iff_ne, Bool.not_eq_true', Bool.not_eq_false', Bool.not_eq_true, Bool.not_eq_false, beq_eq_false_iff_ne, ne_eq, bne_eq_false_iff_eq, Bool.and_eq_true, Bool.or_eq_true, Bool.not_not, Bool.and_eq_false_iff, Bool.or_eq_false_iff, Int.not_lt, Int.not_le] at hc0')
    refine CD.seq ?_
    refine CD.region ?_
    refine OD.still (wants_plain rfl) rfl (still_r1 (mk := fun y => Op.fieldAddr 85 y 1) rfl ot (by first | exact fa_ptr (off := 1) Tryd.runUnderlying85 rfl Tryd.sizeOf9 rfl | exact fa_iptr (off := 1) Tryd.runUnderlying85 rfl Tryd.sizeOf9 rfl)) ?_
    refine OD.still (wants_plain rfl) rfl (still_r1 (mk := Op.load 9) rfl ot (by first | exact ld_blk (k := 1) rfl rfl Tryd.isAgg9 rfl | exact ld_i Tryd.isAgg9 rfl)) ?_
    refine OD.still (wants_plain rfl) rfl (still_r1 (mk := fun y => Op.fieldAddr 85 y 1) rfl ot (by first | exact fa_ptr (off := 1) Tryd.runUnderlying85 rfl Tryd.sizeOf9 rfl | exact fa_iptr (off := 1) Tryd.runUnderlying85 rfl Tryd.sizeOf9 rfl)) ?_
    refine OD.store (k := 0) (cs' := [_, _, _, _, _, _, _, _, _, _, _, _]) (wants_plain rfl) rfl rfl ot rfl rfl ot rfl rfl Tryd.sizeOf9 rfl rfl rfl ?_
    refine OD.wk (Wk.as_ (n := 102) (l' := [(1, _), (3, _)]) (S' := [⟨b3, 85, 12, [_, _, _, _, _, _, _, _, _, _, _, _]⟩, ⟨b1, 85, 12, [_, _, _, _, _, _, _, _, _, _, _, _]⟩]) rfl rfl ⟨lk, lk, trivial⟩) ?_
    refine OD.nil ?_
    refine CD.seq ?_
    refine CD.region ?_
    refine OD.still (wants_plain rfl) rfl (still_r1 (mk := fun y => Op.fieldAddr 85 y 1) rfl ot (by first | exact fa_ptr (off := 1) Tryd.runUnderlying85 rfl Tryd.sizeOf9 rfl | exact fa_iptr (off := 1) Tryd.runUnderlying85 rfl Tryd.sizeOf9 rfl)) ?_
    refine OD.still (wants_plain rfl) rfl (still_r1 (mk := Op.load 9) rfl ot (by first | exact ld_blk (k := 1) rfl rfl Tryd.isAgg9 rfl | exact ld_i Tryd.isAgg9 rfl)) ?_
    refine OD.callP (wants_plain rfl) rfl rfl rfl Tryd.call19 (hnv) ⟨ot, trivial⟩ ?_
    refine OD.still (wants_plain rfl) rfl (still_as rfl ot) ?_
    refine OD.wk (Wk.as_ (n := 102) (l' := [(1, _), (3, _), (4, _)]) (S' := [⟨b3, 85, 12, [_, _, _, _, _, _, _, _, _, _, _, _]⟩, ⟨b1, 85, 12, [_, _, _, _, _, _, _, _, _, _, _, _]⟩]) rfl rfl ⟨lk, lk, lk, trivial⟩) ?_
    refine OD.nil ?_
    refine CD.seq ?_
    refine CD.region ?_
    refine OD.still (wants_plain rfl) rfl (still_mv rfl ot) ?_
    refine OD.still (wants_plain rfl) rfl (still_bin rfl ot opd_const bin_neq) ?_
    refine OD.wk (Wk.as_ (n := 102) (l' := [(1, _), (3, _), (4, _), (19, _)]) (S' := [⟨b3, 85, 12, [_, _, _, _, _, _, _, _, _, _, _, _]⟩, ⟨b1, 85, 12, [_, _, _, _, _, _, _, _, _, _, _, _]⟩]) rfl rfl ⟨lk, lk, lk, lk, trivial⟩) ?_
    refine OD.nil ?_
    refine CD.cond ot (fun hc1 => ?_) (fun hc1 => ?_)
    · exact absurd hc1 (by simp at hc1)
    · have hc1' := hc1
      (try simp only [decide_eq_true_eq, decide_eq_false_iff_not, beq_iff_eq, bne_iff_ne, Bool.not_eq_true', Bool.not_eq_false', Bool.not_eq_true, Bool.not_eq_false, beq_eq_false_iff_ne, ne_eq, bne_eq_false_iff_eq, Bool.and_eq_true, Bool.or_eq_true, Bool.not_not, Bool.and_eq_false_iff, Bool.or_eq_false_iff, Int.not_lt, Int.not_le] at hc1')
      refine CD.skip ?_
      refine CD.seq ?_
      refine CD.region ?_
      refine OD.still (wants_plain rfl) rfl (still_as rfl opd_const) ?_
      refine OD.wk (Wk.as_ (n := 102) (l' := [(1, _), (3, _), (5, _)]) (S' := [⟨b3, 85, 12, [_, _, _, _, _, _, _, _, _, _, _, _]⟩, ⟨b1, 85, 12, [_, _, _, _, _, _, _, _, _, _, _, _]⟩]) rfl rfl ⟨lk, lk, lk, trivial⟩) ?_
      refine OD.nil ?_
      refine CD.seq ?_
      refine CD.seq ?_
      refine CD.region ?_
      refine OD.still (wants_plain rfl) rfl (still_r1 (mk := fun y => Op.fieldAddr 85 y 0) rfl ot (by first | exact fa_ptr (off := 0) Tryd.runUnderlying85 rfl Tryd.sizeOf3 rfl | exact fa_iptr (off := 0) Tryd.runUnderlying85 rfl Tryd.sizeOf3 rfl)) ?_
      refine OD.still (wants_plain rfl) rfl (still_r1 (mk := Op.load 3) rfl ot (by first | exact ld_blk (k := 1) rfl rfl Tryd.isAgg3 rfl | exact ld_i Tryd.isAgg3 rfl)) ?_
      refine OD.wk (Wk.as_ (n := 102) (l' := [(1, _), (3, _), (5, _), (22, _)]) (S' := [⟨b3, 85, 12, [_, _, _, _, _, _, _, _, _, _, _, _]⟩, ⟨b1, 85, 12, [_, _, _, _, _, _, _, _, _, _, _, _]⟩]) rfl rfl ⟨lk, lk, lk, lk, trivial⟩) ?_
      refine OD.nil ?_
      refine CD.block ?_
      refine CD.seq ?_
      refine CD.region ?_
      refine OD.still (wants_plain rfl) rfl (still_bin rfl ot opd_const bin_eql) ?_
      refine OD.still (wants_plain rfl) rfl (still_as rfl ot) ?_
      refine OD.wk (Wk.as_ (n := 102) (l' := [(1, _), (3, _), (5, _), (22, _), (23, _)]) (S' := [⟨b3, 85, 12, [_, _, _, _, _, _, _, _, _, _, _, _]⟩, ⟨b1, 85, 12, [_, _, _, _, _, _, _, _, _, _, _, _]⟩]) rfl rfl ⟨lk, lk, lk, lk, lk, trivial⟩) ?_
      refine OD.nil ?_
      refine CD.cond ot (fun hc2 => ?_) (fun hc2 => ?_)
      · have hc2' := hc2
        (try simp only [decide_eq_true_eq, decide_eq_false_iff_not, beq_iff_eq, bne_iff_ne, Bool.not_eq_true', Bool.not_eq_false', Bool.not_eq_true, Bool.not_eq_false, beq_eq_false_iff_ne, ne_eq, bne_eq_false_iff_eq, Bool.and_eq_true, Bool.or_eq_true, Bool.not_not, Bool.and_eq_false_iff, Bool.or_eq_false_iff, Int.not_lt, Int.not_le] at hc2')
        refine CD.seq ?_
        refine CD.region ?_
        refine OD.still (wants_plain rfl) rfl (still_r1 (mk := fun y => Op.fieldAddr 85 y 2) rfl ot (by first | exact fa_ptr (off := 2) Tryd.runUnderlying85 rfl Tryd.sizeOf56 rfl | exact fa_iptr (off := 2) Tryd.runUnderlying85 rfl Tryd.sizeOf56 rfl)) ?_
        refine OD.still (wants_plain rfl) rfl (still_r1 (mk := Op.load 56) rfl ot (by first | exact ld_blk (k := 1) rfl rfl Tryd.isAgg56 rfl | exact ld_i Tryd.isAgg56 rfl)) ?_
        refine OD.still (wants_plain rfl) rfl (still_r1 (mk := fun y => Op.fieldAddr 85 y 2) rfl ot (by first | exact fa_ptr (off := 2) Tryd.runUnderlying85 rfl Tryd.sizeOf56 rfl | exact fa_iptr (off := 2) Tryd.runUnderlying85 rfl Tryd.sizeOf56 rfl)) ?_
        refine OD.store (k := 0) (cs' := [_, _, _, _, _, _, _, _, _, _, _, _]) (wants_plain rfl) rfl rfl ot rfl rfl ot rfl rfl Tryd.sizeOf56 rfl rfl rfl ?_
        refine OD.wk (Wk.as_ (n := 102) (l' := [(1, _), (3, _)]) (S' := [⟨b3, 85, 12, [_, _, _, _, _, _, _, _, _, _, _, _]⟩, ⟨b1, 85, 12, [_, _, _, _, _, _, _, _, _, _, _, _]⟩]) rfl rfl ⟨lk, lk, trivial⟩) ?_
        refine OD.nil ?_
        refine CD.region ?_
        refine OD.still (wants_plain rfl) rfl (still_r1 (mk := fun y => Op.fieldAddr 85 y 2) rfl ot (by first | exact fa_ptr (off := 2) Tryd.runUnderlying85 rfl Tryd.sizeOf56 rfl | exact fa_iptr (off := 2) Tryd.runUnderlying85 rfl Tryd.sizeOf56 rfl)) ?_
        refine OD.still (wants_plain rfl) rfl (still_r1 (mk := Op.load 56) rfl ot (by first | exact ld_blk (k := 1) rfl rfl Tryd.isAgg56 rfl | exact ld_i Tryd.isAgg56 rfl)) ?_
        refine OD.callP (wants_plain rfl) rfl rfl rfl Tryd.call70 (cols_vp hm hw l hl hok) ⟨ot, trivial⟩ ?_
        refine OD.still (wants_plain rfl) rfl (still_as rfl ot) ?_
        refine OD.wk (Wk.as_ (n := 102) (l' := [(1, _), (3, _), (5, _)]) (S' := [⟨b3, 85, 12, [_, _, _, _, _, _, _, _, _, _, _, _]⟩, ⟨b1, 85, 12, [_, _, _, _, _, _, _, _, _, _, _, _]⟩]) rfl rfl ⟨lk, lk, lk, trivial⟩) ?_
        refine OD.nil ?_
        refine CD.seq ?_
        refine CD.seq ?_
        refine CD.region ?_
        refine OD.still (wants_plain rfl) rfl (still_mv rfl ot) ?_
        refine OD.still (wants_plain rfl) rfl (still_bin rfl ot opd_const bin_eql) ?_
        refine OD.still (wants_plain rfl) rfl (still_mv rfl ot) ?_
        refine OD.split (t := 95) lk (fun hg95 => ?_) (fun hg95 => ?_)
        · have hg95' := hg95; (try simp only [decide_eq_true_eq, decide_eq_false_iff_not, beq_iff_eq, bne_iff_ne, Bool.not_eq_true', Bool.not_eq_false', Bool.not_eq_true, Bool.not_eq_false, beq_eq_false_iff_ne, ne_eq, bne_eq_false_iff_eq, Bool.and_eq_true, Bool.or_eq_true, Bool.not_not] at hg95')
          refine OD.still (wants_T rfl rfl rfl lk (by first | rfl | assumption)) rfl (still_r1 (mk := Op.load 85) rfl ot (by first | exact ld_blks (k := 1) (ds := [_, _, _, _, _, _, _, _, _, _, _, _]) rfl rfl Tryd.isAgg85 Tryd.sizeOf85 rfl rfl | exact ld_is (ds := [_, _, _, _, _, _, _, _, _, _, _, _]) Tryd.isAgg85 Tryd.sizeOf85 rfl rfl)) ?_
          refine OD.still (wants_T rfl rfl rfl lk (by first | rfl | assumption)) rfl (still_r1 (mk := Op.load 85) rfl ot (by first | exact ld_blks (k := 0) (ds := [_, _, _, _, _, _, _, _, _, _, _, _]) rfl rfl Tryd.isAgg85 Tryd.sizeOf85 rfl rfl | exact ld_is (ds := [_, _, _, _, _, _, _, _, _, _, _, _]) Tryd.isAgg85 Tryd.sizeOf85 rfl rfl)) ?_
          refine OD.callP (wants_T rfl rfl rfl lk (by first | rfl | assumption)) rfl rfl rfl Tryd.call74 (hba) ⟨ot, ot, trivial⟩ ?_
          refine OD.still (wants_T rfl rfl rfl lk (by first | rfl | assumption)) rfl (still_un rfl ot un_not) ?_
          refine OD.still (wants_plain rfl) rfl (still_pickT rfl ot (by first | rfl | assumption) ot) ?_
          refine OD.wk (Wk.as_ (n := 102) (l' := [(5, _), (100, _)]) (S' := [⟨b3, 85, 12, [_, _, _, _, _, _, _, _, _, _, _, _]⟩, ⟨b1, 85, 12, [_, _, _, _, _, _, _, _, _, _, _, _]⟩]) rfl rfl ⟨lk, lk, trivial⟩) ?_
          refine OD.nil ?_
          refine CD.cond ot (fun hc9 => ?_) (fun hc9 => ?_)
          · exact absurd hc9 (by first | (simp at hc9; done) | simp_all)
          · have hc9' := hc9
            (try simp only [decide_eq_true_eq, decide_eq_false_iff_not, beq_iff_eq, bne_iff_ne, Bool.not_eq_true', Bool.not_eq_false', Bool.not_eq_true, Bool.not_eq_false, beq_eq_false_iff_ne, ne_eq, bne_eq_false_iff_eq, Bool.and_eq_true, Bool.or_eq_true, Bool.not_not, Bool.and_eq_false_iff, Bool.or_eq_false_iff, Int.not_lt, Int.not_le] at hc9')
            refine CD.skip ?_
            refine CD.seq ?_
            refine CD.region ?_
            refine OD.still (wants_plain rfl) rfl (still_mv rfl ot) ?_
            refine OD.still (wants_plain rfl) rfl (still_as rfl ot) ?_
            refine OD.wk (Wk.as_ (n := 102) (l' := [(2, _)]) (S' := [⟨b3, 85, 12, [_, _, _, _, _, _, _, _, _, _, _, _]⟩, ⟨b1, 85, 12, [_, _, _, _, _, _, _, _, _, _, _, _]⟩]) rfl rfl ⟨lk, trivial⟩) ?_
            refine OD.nil ?_
            refine CD.ret ?_
            refine ⟨.inr rfl, _, [], List.nil_sublist _, ret_one Tryd.results57 (res_tmp (Nat.le_of_ble_eq_true rfl) lk), ?_⟩
            exact ⟨rfl, rfl⟩
        · have hg95' := hg95; (try simp only [decide_eq_true_eq, decide_eq_false_iff_not, beq_iff_eq, bne_iff_ne, Bool.not_eq_true', Bool.not_eq_false', Bool.not_eq_true, Bool.not_eq_false, beq_eq_false_iff_ne, ne_eq, bne_eq_false_iff_eq, Bool.and_eq_true, Bool.or_eq_true, Bool.not_not] at hg95')
          refine OD.skip (wants_F rfl rfl rfl lk (by first | rfl | assumption)) rfl ?_
          refine OD.skip (wants_F rfl rfl rfl lk (by first | rfl | assumption)) rfl ?_
          refine OD.skip (wants_F rfl rfl rfl lk (by first | rfl | assumption)) rfl ?_
          refine OD.skip (wants_F rfl rfl rfl lk (by first | rfl | assumption)) rfl ?_
          refine OD.still (wants_plain rfl) rfl (still_pickF rfl ot (by first | rfl | assumption) opd_const) ?_
          refine OD.wk (Wk.as_ (n := 102) (l' := [(5, _), (100, _)]) (S' := [⟨b3, 85, 12, [_, _, _, _, _, _, _, _, _, _, _, _]⟩, ⟨b1, 85, 12, [_, _, _, _, _, _, _, _, _, _, _, _]⟩]) rfl rfl ⟨lk, lk, trivial⟩) ?_
          refine OD.nil ?_
          refine CD.condF ot (by first | rfl | assumption) ?_
          refine CD.skip ?_
          refine CD.seq ?_
          refine CD.region ?_
          refine OD.still (wants_plain rfl) rfl (still_mv rfl ot) ?_
          refine OD.still (wants_plain rfl) rfl (still_as rfl ot) ?_
          refine OD.wk (Wk.as_ (n := 102) (l' := [(2, _)]) (S' := [⟨b3, 85, 12, [_, _, _, _, _, _, _, _, _, _, _, _]⟩, ⟨b1, 85, 12, [_, _, _, _, _, _, _, _, _, _, _, _]⟩]) rfl rfl ⟨lk, trivial⟩) ?_
          refine OD.nil ?_
          refine CD.ret ?_
          refine ⟨.inr rfl, _, [], List.nil_sublist _, ret_one Tryd.results57 (res_tmp (Nat.le_of_ble_eq_true rfl) lk), ?_⟩
          exact ⟨rfl, rfl⟩
      · exact absurd hc2 (by simp at hc2)
  · exact absurd hc0 (by simp at hc0)

set_option maxHeartbeats 4000000 in
set_option maxRecDepth 100000 in
theorem Check_vp (hm : (1, marksC) ∈ G) (hw : (0, wordsC) ∈ G) (ht : (2, typesC) ∈ G) (l : List ColL) (hl : l.length ≤ maxLen) (hok : ∀ c ∈ l, c.n.size ≤ maxLen) : VP Tryd.prog G 42 [.agg (stD l)] (.v (.int .i64 (colsF l))) := by
  refine VC.body Tryd.func42 rfl Tryd.ntmps42 (Nat.le_of_ble_eq_true rfl) fun X0 w0 S00 => ?_
  have hmx : maxLen = 9223372036854775807 := rfl
  have hcv := check_vp hm hw l hl hok
  unfold stD at hcv
  unfold stD
  refine CD.seq ?_
  refine CD.region ?_
  refine OD.box (ds := [_, _, _, _, _, _, _, _, _, _, _, _]) (wants_plain rfl) rfl rfl ot rfl rfl (fun b1 => ?_)
  refine OD.still (wants_plain rfl) rfl (still_as rfl opd_const) ?_
  refine OD.wk (Wk.as_ (n := 21) (l' := [(1, _)]) (S' := [⟨b1, 85, 12, [_, _, _, _, _, _, _, _, _, _, _, _]⟩]) rfl rfl ⟨lk, trivial⟩) ?_
  refine OD.nil ?_
  refine CD.seq ?_
  refine CD.seq ?_
  refine CD.region ?_
  refine OD.still (wants_plain rfl) rfl (still_r1 (mk := fun y => Op.fieldAddr 85 y 0) rfl ot (by first | exact fa_ptr (off := 0) Tryd.runUnderlying85 rfl Tryd.sizeOf3 rfl | exact fa_iptr (off := 0) Tryd.runUnderlying85 rfl Tryd.sizeOf3 rfl)) ?_
  refine OD.still (wants_plain rfl) rfl (still_r1 (mk := Op.load 3) rfl ot (by first | exact ld_blk (k := 0) rfl rfl Tryd.isAgg3 rfl | exact ld_i Tryd.isAgg3 rfl)) ?_
  refine OD.still (wants_plain rfl) rfl (still_bin rfl ot opd_const bin_lss) ?_
  refine OD.still (wants_plain rfl) rfl (still_mv rfl ot) ?_
  refine OD.split (t := 7) lk (fun hg7 => ?_) (fun hg7 => ?_)
  · exact absurd hg7 (by simp at hg7)
  · have hg7' := hg7; (try simp only [decide_eq_true_eq, decide_eq_false_iff_not, beq_iff_eq, bne_iff_ne, Bool.not_eq_true', Bool.not_eq_false', Bool.not_eq_true, Bool.not_eq_false, beq_eq_false_iff_ne, ne_eq, bne_eq_false_iff_eq, Bool.and_eq_true, Bool.or_eq_true, Bool.not_not] at hg7')
    refine OD.still (wants_T rfl rfl rfl lk (by first | rfl | assumption)) rfl (still_r1 (mk := fun y => Op.fieldAddr 85 y 0) rfl ot (by first | exact fa_ptr (off := 0) Tryd.runUnderlying85 rfl Tryd.sizeOf3 rfl | exact fa_iptr (off := 0) Tryd.runUnderlying85 rfl Tryd.sizeOf3 rfl)) ?_
    refine OD.still (wants_T rfl rfl rfl lk (by first | rfl | assumption)) rfl (still_r1 (mk := Op.load 3) rfl ot (by first | exact ld_blk (k := 0) rfl rfl Tryd.isAgg3 rfl | exact ld_i Tryd.isAgg3 rfl)) ?_
    refine OD.still (wants_T rfl rfl rfl lk (by first | rfl | assumption)) rfl (still_bin rfl ot opd_const bin_gtr) ?_
    refine OD.still (wants_plain rfl) rfl (still_pickF rfl ot (by first | rfl | assumption) ot) ?_
    refine OD.wk (Wk.as_ (n := 21) (l' := [(1, _), (11, _)]) (S' := [⟨b1, 85, 12, [_, _, _, _, _, _, _, _, _, _, _, _]⟩]) rfl rfl ⟨lk, lk, trivial⟩) ?_
    refine OD.nil ?_
    refine CD.cond ot (fun hc0 => ?_) (fun hc0 => ?_)
    · exact absurd hc0 (by simp at hc0)
    · have hc0' := hc0
      (try simp only [decide_eq_true_eq, decide_eq_false_iff_not, beq_iff_eq, bne_iff_ne, Bool.not_eq_true', Bool.not_eq_false', Bool.not_eq_true, Bool.not_eq_false, beq_eq_false_iff_ne, ne_eq, bne_eq_false_iff_eq, Bool.and_eq_true, Bool.or_eq_true, Bool.not_not, Bool.and_eq_false_iff, Bool.or_eq_false_iff, Int.not_lt, Int.not_le] at hc0')
      refine CD.skip ?_
      refine CD.seq ?_
      refine CD.seq ?_
      refine CD.region ?_
      refine OD.still (wants_plain rfl) rfl (still_r1 (mk := Op.load 85) rfl ot (by first | exact ld_blks (k := 0) (ds := [_, _, _, _, _, _, _, _, _, _, _, _]) rfl rfl Tryd.isAgg85 Tryd.sizeOf85 rfl rfl | exact ld_is (ds := [_, _, _, _, _, _, _, _, _, _, _, _]) Tryd.isAgg85 Tryd.sizeOf85 rfl rfl)) ?_
      refine OD.callP (wants_plain rfl) rfl rfl rfl Tryd.call57 (hcv) ⟨ot, trivial⟩ ?_
      refine OD.still (wants_plain rfl) rfl (still_as rfl ot) ?_
      refine OD.wk (Wk.as_ (n := 21) (l' := [(1, _), (3, _)]) (S' := [⟨b1, 85, 12, [_, _, _, _, _, _, _, _, _, _, _, _]⟩]) rfl rfl ⟨lk, lk, trivial⟩) ?_
      refine OD.nil ?_
      refine CD.seq ?_
      refine CD.region ?_
      refine OD.still (wants_plain rfl) rfl (still_mv rfl ot) ?_
      refine OD.still (wants_plain rfl) rfl (still_bin rfl ot opd_const bin_neq) ?_
      refine OD.wk (Wk.as_ (n := 21) (l' := [(1, _), (3, _), (15, _)]) (S' := [⟨b1, 85, 12, [_, _, _, _, _, _, _, _, _, _, _, _]⟩]) rfl rfl ⟨lk, lk, lk, trivial⟩) ?_
      refine OD.nil ?_
      refine CD.cond ot (fun hc1 => ?_) (fun hc1 => ?_)
      · have hc1' := hc1
        (try simp only [decide_eq_true_eq, decide_eq_false_iff_not, beq_iff_eq, bne_iff_ne, Bool.not_eq_true', Bool.not_eq_false', Bool.not_eq_true, Bool.not_eq_false, beq_eq_false_iff_ne, ne_eq, bne_eq_false_iff_eq, Bool.and_eq_true, Bool.or_eq_true, Bool.not_not, Bool.and_eq_false_iff, Bool.or_eq_false_iff, Int.not_lt, Int.not_le] at hc1')
        refine CD.seq ?_
        refine CD.region ?_
        refine OD.still (wants_plain rfl) rfl (still_mv rfl ot) ?_
        refine OD.still (wants_plain rfl) rfl (still_as rfl ot) ?_
        refine OD.wk (Wk.as_ (n := 21) (l' := [(2, _)]) (S' := [⟨b1, 85, 12, [_, _, _, _, _, _, _, _, _, _, _, _]⟩]) rfl rfl ⟨lk, trivial⟩) ?_
        refine OD.nil ?_
        refine CD.ret ?_
        refine ⟨.inr rfl, _, [], List.nil_sublist _, ret_one Tryd.results42 (res_tmp (Nat.le_of_ble_eq_true rfl) lk), ?_⟩
        first | exact ⟨rfl, rfl⟩ | (rw [h0]; exact ⟨rfl, rfl⟩)
      · have hc1' := hc1
        (try simp only [decide_eq_true_eq, decide_eq_false_iff_not, beq_iff_eq, bne_iff_ne, Bool.not_eq_true', Bool.not_eq_false', Bool.not_eq_true, Bool.not_eq_false, beq_eq_false_iff_ne, ne_eq, bne_eq_false_iff_eq, Bool.and_eq_true, Bool.or_eq_true, Bool.not_not, Bool.and_eq_false_iff, Bool.or_eq_false_iff, Int.not_lt, Int.not_le] at hc1')
        have h0 : colsF l = 0 := by simpa using hc1
        obtain ⟨h6, hk⟩ := cols_good h0
        have hsv := show_vp ht l h6.2 hk
        unfold stD at hsv
        have hsl := (show_len h6.2).1
        refine CD.skip ?_
        refine CD.seq ?_
        refine CD.seq ?_
        refine CD.region ?_
        refine OD.still (wants_plain rfl) rfl (still_r1 (mk := Op.load 85) rfl ot (by first | exact ld_blks (k := 0) (ds := [_, _, _, _, _, _, _, _, _, _, _, _]) rfl rfl Tryd.isAgg85 Tryd.sizeOf85 rfl rfl | exact ld_is (ds := [_, _, _, _, _, _, _, _, _, _, _, _]) Tryd.isAgg85 Tryd.sizeOf85 rfl rfl)) ?_
        refine OD.callP (wants_plain rfl) rfl rfl rfl Tryd.call58 (hsv) ⟨ot, trivial⟩ ?_
        refine OD.still (wants_plain rfl) rfl (still_r1 (mk := fun y => .call { callee := .builtin .len, args := #[y], argTypes := #[101] }) rfl ot (by first | exact len_list rfl Tryd.runUnderlying101 | exact len_row rfl Tryd.runUnderlying101)) ?_
        refine OD.still (wants_plain rfl) rfl (still_bin rfl ot opd_const bin_gtr) ?_
        refine OD.wk (Wk.as_ (n := 21) (l' := [(20, _)]) (S' := [⟨b1, 85, 12, [_, _, _, _, _, _, _, _, _, _, _, _]⟩]) rfl rfl ⟨lk, trivial⟩) ?_
        refine OD.nil ?_
        refine CD.cond ot (fun hc2 => ?_) (fun hc2 => ?_)
        · exact absurd hc2 (by simp at hc2; omega)
        · have hc2' := hc2
          (try simp only [decide_eq_true_eq, decide_eq_false_iff_not, beq_iff_eq, bne_iff_ne, Bool.not_eq_true', Bool.not_eq_false', Bool.not_eq_true, Bool.not_eq_false, beq_eq_false_iff_ne, ne_eq, bne_eq_false_iff_eq, Bool.and_eq_true, Bool.or_eq_true, Bool.not_not, Bool.and_eq_false_iff, Bool.or_eq_false_iff, Int.not_lt, Int.not_le] at hc2')
          refine CD.skip ?_
          refine CD.seq ?_
          refine CD.region ?_
          refine OD.still (wants_plain rfl) rfl (still_as rfl opd_const) ?_
          refine OD.wk (Wk.as_ (n := 21) (l' := [(2, _)]) (S' := [⟨b1, 85, 12, [_, _, _, _, _, _, _, _, _, _, _, _]⟩]) rfl rfl ⟨lk, trivial⟩) ?_
          refine OD.nil ?_
          refine CD.ret ?_
          refine ⟨.inr rfl, _, [], List.nil_sublist _, ret_one Tryd.results42 (res_tmp (Nat.le_of_ble_eq_true rfl) lk), ?_⟩
          first | exact ⟨rfl, rfl⟩ | (rw [h0]; exact ⟨rfl, rfl⟩)

set_option maxHeartbeats 4000000 in
set_option maxRecDepth 100000 in
theorem Cols_vp (hm : (1, marksC) ∈ G) (hw : (0, wordsC) ∈ G) (ht : (2, typesC) ∈ G) (l : List ColL) (hl : l.length ≤ maxLen) (hok : ∀ c ∈ l, c.n.size ≤ maxLen) : VP Tryd.prog G 26 [.list 2 (l.flatMap cC) l.length] (.v (.int .i64 (colsF l))) := by
  refine VC.body Tryd.func26 rfl Tryd.ntmps26 (Nat.le_of_ble_eq_true rfl) fun X0 w0 S00 => ?_
  have hmx : maxLen = 9223372036854775807 := rfl
  have hcv := Check_vp hm hw ht l hl hok
  unfold stD at hcv
  refine CD.seq ?_
  refine CD.region ?_
  refine OD.still (wants_plain rfl) rfl (still_as rfl opd_const) ?_
  refine OD.wk (Wk.as_ (n := 6) (l' := [(0, _)]) (S' := []) rfl rfl ⟨lk, trivial⟩) ?_
  refine OD.nil ?_
  refine CD.seq ?_
  refine CD.region ?_
  refine OD.still (wants_plain rfl) rfl (still_mv rfl ot) ?_
  refine OD.still (wants_plain rfl) rfl (still_bld (pl := [(0, _), (1, _), (2, _), (9, _)]) (ds := [_, _, _, _, _, _, _, _, _, _, _, _]) rfl Tryd.zeroValue85 Tryd.runUnderlying85 places85_Pc4 ⟨rfl, opd_const, rfl, opd_const, rfl, ot, rfl, opd_const, trivial⟩ rfl rfl) ?_
  refine OD.callP (wants_plain rfl) rfl rfl rfl Tryd.call42 (hcv) ⟨ot, trivial⟩ ?_
  refine OD.still (wants_plain rfl) rfl (still_as rfl ot) ?_
  refine OD.wk (Wk.as_ (n := 6) (l' := [(2, _)]) (S' := []) rfl rfl ⟨lk, trivial⟩) ?_
  refine OD.nil ?_
  refine CD.ret ?_
  refine ⟨.inr rfl, _, [], List.nil_sublist _, ret_one Tryd.results26 (res_tmp (Nat.le_of_ble_eq_true rfl) lk), ?_⟩
  exact ⟨rfl, rfl⟩

end Go.Proofs.YtoemmoeedhllfaaDoor.Pc

namespace Go.Proofs.YtoemmoeedhllfaaDoor.Pc
open Go.RowKit V Pk Vl Go.Proofs.YtoemmoeedhllfaaDoor.Nm
set_option linter.unusedVariables false
set_option linter.unusedSimpArgs false

variable {G : List (Nat × List Value)}
def colsL : List ColL := [⟨⟨#[105, 100]⟩, 2⟩, ⟨⟨#[110]⟩, 2⟩, ⟨⟨#[115]⟩, 3⟩, ⟨⟨#[98]⟩, 1⟩]
theorem nm_id : nameF ⟨#[105, 100]⟩ = 0 := small_name (l := [105, 100]) (by decide) (by decide) (by decide)
theorem nm_n : nameF ⟨#[110]⟩ = 0 := small_name (l := [110]) (by decide) (by decide) (by decide)
theorem nm_s : nameF ⟨#[115]⟩ = 0 := small_name (l := [115]) (by decide) (by decide) (by decide)
theorem nm_b : nameF ⟨#[98]⟩ = 0 := small_name (l := [98]) (by decide) (by decide) (by decide)
theorem cols_ok : colsF colsL = 0 := by
  simp [colsF, colsL, colsA, colF, nm_id, nm_n, nm_s, nm_b, str_list]
theorem cols_sz : ∀ c ∈ colsL, c.n.size ≤ maxLen := fun c hc => by
  have h : c.n.size ≤ 2 := by
    simp only [colsL, List.mem_cons, List.not_mem_nil, or_false] at hc
    rcases hc with rfl | rfl | rfl | rfl
    · exact Nat.le_refl 2
    · exact Nat.le_succ 1
    · exact Nat.le_succ 1
    · exact Nat.le_succ 1
  exact Nat.le_trans h (by decide)
theorem places61_Pc5 : ∀ w, ((#[{ name := "Name", type := 9, offset := 0, embedded := false, tag := "", pkgPath := "", byteOffset := 0 }, { name := "Kind", type := 3, offset := 1, embedded := false, tag := "", pkgPath := "", byteOffset := 16 }] : Array Field).mapM fun f => do pure (f.offset, ← sizeOf f.type) : Sem (Array (Nat × Nat))).run Tryd.prog w = .ok #[(0, 1), (1, 1)] w := fun w => by simp [Tryd.sizeOf3, Tryd.sizeOf9]

set_option maxHeartbeats 4000000 in
set_option maxRecDepth 100000 in
theorem colsOf_vp : VP Tryd.prog G 24 [] (.list 2 (colsL.flatMap cC) colsL.length) := by
  refine VC.body Tryd.func24 rfl Tryd.ntmps24 (Nat.le_of_ble_eq_true rfl) fun X0 w0 S00 => ?_
  refine CD.seq ?_
  refine CD.region ?_
  refine OD.still (wants_plain rfl) rfl (still_as rfl opd_const) ?_
  refine OD.wk (Wk.as_ (n := 6) (l' := []) (S' := []) rfl rfl trivial) ?_
  refine OD.nil ?_
  refine CD.seq ?_
  refine CD.region ?_
  refine OD.still (wants_plain rfl) rfl (still_bld (pl := [(0, _), (1, _)]) (ds := [_, _]) rfl Tryd.zeroValue61 Tryd.runUnderlying61 places61_Pc5 ⟨rfl, opd_const, rfl, opd_const, trivial⟩ rfl rfl) ?_
  refine OD.still (wants_plain rfl) rfl (still_bld (pl := [(0, _), (1, _)]) (ds := [_, _]) rfl Tryd.zeroValue61 Tryd.runUnderlying61 places61_Pc5 ⟨rfl, opd_const, rfl, opd_const, trivial⟩ rfl rfl) ?_
  refine OD.still (wants_plain rfl) rfl (still_bld (pl := [(0, _), (1, _)]) (ds := [_, _]) rfl Tryd.zeroValue61 Tryd.runUnderlying61 places61_Pc5 ⟨rfl, opd_const, rfl, opd_const, trivial⟩ rfl rfl) ?_
  refine OD.still (wants_plain rfl) rfl (still_bld (pl := [(0, _), (1, _)]) (ds := [_, _]) rfl Tryd.zeroValue61 Tryd.runUnderlying61 places61_Pc5 ⟨rfl, opd_const, rfl, opd_const, trivial⟩ rfl rfl) ?_
  refine OD.bldS (pl := [(0, _), (1, _), (2, _), (3, _)]) (zvs := [.string ⟨#[]⟩, .int .i64 0, .string ⟨#[]⟩, .int .i64 0, .string ⟨#[]⟩, .int .i64 0, .string ⟨#[]⟩, .int .i64 0]) (ds := [_, _, _, _, _, _, _, _]) (wants_plain rfl) rfl rfl Tryd.zeroValue61 Tryd.runUnderlying56 Tryd.sizeOf61 rfl rfl (by kernel_rfl) ⟨rfl, ot, rfl, ot, rfl, ot, rfl, ot, trivial⟩ rfl rfl (fun b5 => ?_)
  refine OD.perm (perm_q11 (S1 := [⟨b5, 61, 4 * 2, List.flatMap cC ([⟨⟨#[105, 100]⟩, 2⟩, ⟨⟨#[110]⟩, 2⟩, ⟨⟨#[115]⟩, 3⟩, ⟨⟨#[98]⟩, 1⟩])⟩]) (A := [])) ?_
  refine OD.still (wants_plain rfl) rfl (still_as rfl ot) ?_
  refine OD.wk (Wk.as_ (n := 6) (l' := [(0, _)]) (S' := ([⟨b5, 61, 4 * 2, List.flatMap cC ([⟨⟨#[105, 100]⟩, 2⟩, ⟨⟨#[110]⟩, 2⟩, ⟨⟨#[115]⟩, 3⟩, ⟨⟨#[98]⟩, 1⟩])⟩])) rfl rfl ⟨lk, trivial⟩) ?_
  refine OD.nil ?_
  refine CD.giveL (t := 0) (Sq := [⟨b5, 61, 4 * 2, List.flatMap cC ([⟨⟨#[105, 100]⟩, 2⟩, ⟨⟨#[110]⟩, 2⟩, ⟨⟨#[115]⟩, 3⟩, ⟨⟨#[98]⟩, 1⟩])⟩]) lk (ownL_row (g := cC) (sz := 2) (e := 61) (ls := [⟨⟨#[105, 100]⟩, 2⟩, ⟨⟨#[110]⟩, 2⟩, ⟨⟨#[115]⟩, 3⟩, ⟨⟨#[98]⟩, 1⟩]) (Nat.le_refl _) (show 4 ≤ maxLen by decide)) (fm_len cC_len _) (perm_r11 (A := [])) ?_
  refine CD.ret ?_
  refine ⟨.inr rfl, _, [], List.nil_sublist _, ret_one Tryd.results24 (res_tmp (Nat.le_of_ble_eq_true rfl) lk), ?_⟩
  exact ⟨rfl, rfl⟩

end Go.Proofs.YtoemmoeedhllfaaDoor.Pc

namespace Go.Proofs.YtoemmoeedhllfaaDoor.Pc
open Go.RowKit V Pk Vl Go.Proofs.YtoemmoeedhllfaaDoor.Nm
set_option linter.unusedVariables false
set_option linter.unusedSimpArgs false

def typesB : List (List UInt8) := [[], [66, 79, 79, 76], [73, 78, 84], [84, 69, 88, 84]]
abbrev TypesTab (w : World) : Prop := Tab.TabAt w 2 typesC
abbrev TG : List (Nat × List Value) := [(1, marksC), (0, wordsC), (2, typesC)]
theorem tg_ok {w : World} (h1 : MarksTab w) (h2 : WordsTab w) (h3 : TypesTab w) : ∀ g ∈ TG, g.2 ≠ [] ∧ Tab.TabAt w g.1 g.2 := fun g hg => by
  simp only [TG, List.mem_cons, List.not_mem_nil, or_false] at hg
  rcases hg with rfl | rfl | rfl
  · exact ⟨by decide, h1⟩
  · exact ⟨by decide, h2⟩
  · exact ⟨by decide, h3⟩
theorem tg1 : (1, marksC) ∈ TG := List.mem_cons_self
theorem tg2 : (0, wordsC) ∈ TG := List.mem_cons_of_mem _ List.mem_cons_self
theorem tg3 : (2, typesC) ∈ TG := List.mem_cons_of_mem _ (List.mem_cons_of_mem _ List.mem_cons_self)
end Go.Proofs.YtoemmoeedhllfaaDoor.Pc

namespace Go.Proofs.YtoemmoeedhllfaaDoor.Nm
open Go.RowKit V Pk Vl
set_option linter.unusedVariables false
set_option linter.unusedSimpArgs false

structure OpL where
  k : Int
  v : Vl
  nm : ByteArray
def cO (o : OpL) : List D := [.v (.int .i64 o.k), .v (.int .i64 o.v.k), .v (.int .i64 o.v.n), .v (.string o.v.s), .v (.string o.nm)]
theorem cO_len (o : OpL) : (cO o).length = 5 := rfl
variable {G : List (Nat × List Value)}

end Go.Proofs.YtoemmoeedhllfaaDoor.Nm

namespace Go.Proofs.YtoemmoeedhllfaaDoor.Pc
open Go.RowKit V Pk Vl Go.Proofs.YtoemmoeedhllfaaDoor.Nm
set_option linter.unusedVariables false
set_option linter.unusedSimpArgs false

variable {G : List (Nat × List Value)}
theorem nm_sel : nameF ⟨#[83, 69, 76, 69, 67, 84]⟩ = 6 := name_kept (j := 0) (by decide)
theorem cols_none : colsF [] = 1 := by simp [colsF]
theorem cols_sz6 {l : List ColL} (h : ∀ c ∈ l, c.n.size ≤ 6) : ∀ c ∈ l, c.n.size ≤ maxLen := fun c hc => Nat.le_trans (h c hc) (by decide)

set_option maxHeartbeats 4000000 in
set_option maxRecDepth 100000 in
theorem checked_vp (hm : (1, marksC) ∈ G) (hw : (0, wordsC) ∈ G) (ht : (2, typesC) ∈ G) (l : List ColL) (hl : l.length ≤ maxLen) (hok : ∀ c ∈ l, c.n.size ≤ maxLen) (hbad : colsF l ≠ 0) (o : List OpL) : VP Tryd.prog G 40 [.list 2 (l.flatMap cC) l.length, .list 5 (o.flatMap cO) o.length] (.v (.int .i64 (colsF l))) := by
  refine VC.body Tryd.func40 rfl Tryd.ntmps40 (Nat.le_of_ble_eq_true rfl) fun X0 w0 S00 => ?_
  have hmx : maxLen = 9223372036854775807 := rfl
  refine CD.seq ?_
  refine CD.region ?_
  refine OD.still (wants_plain rfl) rfl (still_as rfl opd_const) ?_
  refine OD.wk (Wk.as_ (n := 13) (l' := [(0, _), (1, _)]) (S' := []) rfl rfl ⟨lk, lk, trivial⟩) ?_
  refine OD.nil ?_
  refine CD.seq ?_
  refine CD.seq ?_
  refine CD.region ?_
  refine OD.still (wants_plain rfl) rfl (still_mv rfl ot) ?_
  refine OD.callP (wants_plain rfl) rfl rfl rfl Tryd.call26 (Cols_vp hm hw ht l hl hok) ⟨ot, trivial⟩ ?_
  refine OD.still (wants_plain rfl) rfl (still_as rfl ot) ?_
  refine OD.wk (Wk.as_ (n := 13) (l' := [(1, _), (5, _)]) (S' := []) rfl rfl ⟨lk, lk, trivial⟩) ?_
  refine OD.nil ?_
  refine CD.seq ?_
  refine CD.region ?_
  refine OD.still (wants_plain rfl) rfl (still_mv rfl ot) ?_
  refine OD.still (wants_plain rfl) rfl (still_bin rfl ot opd_const bin_neq) ?_
  refine OD.wk (Wk.as_ (n := 13) (l' := [(1, _), (5, _), (9, _)]) (S' := []) rfl rfl ⟨lk, lk, lk, trivial⟩) ?_
  refine OD.nil ?_
  refine CD.cond ot (fun hc0 => ?_) (fun hc0 => ?_)
  · have hc0' := hc0
    (try simp only [decide_eq_true_eq, decide_eq_false_iff_not, beq_iff_eq, bne_iff_ne, Bool.not_eq_true', Bool.not_eq_false', Bool.not_eq_true, Bool.not_eq_false, beq_eq_false_iff_ne, ne_eq, bne_eq_false_iff_eq, Bool.and_eq_true, Bool.or_eq_true, Bool.not_not, Bool.and_eq_false_iff, Bool.or_eq_false_iff, Int.not_lt, Int.not_le] at hc0')
    refine CD.seq ?_
    refine CD.region ?_
    refine OD.still (wants_plain rfl) rfl (still_mv rfl ot) ?_
    refine OD.still (wants_plain rfl) rfl (still_as rfl ot) ?_
    refine OD.wk (Wk.as_ (n := 13) (l' := [(4, _)]) (S' := []) rfl rfl ⟨lk, trivial⟩) ?_
    refine OD.nil ?_
    refine CD.ret ?_
    refine ⟨.inr rfl, _, [], List.nil_sublist _, ret_one Tryd.results40 (res_tmp (Nat.le_of_ble_eq_true rfl) lk), ?_⟩
    exact ⟨rfl, rfl⟩
  · exact absurd hc0 (by simp [hbad])

set_option maxHeartbeats 4000000 in
set_option maxRecDepth 100000 in
theorem Kind_vp (hm : (1, marksC) ∈ G) (hw : (0, wordsC) ∈ G) (ht : (2, typesC) ∈ G) (l : List ColL) (hl : l.length ≤ maxLen) (hok : ∀ c ∈ l, c.n.size ≤ maxLen) (hbad : colsF l ≠ 0) (o : List OpL) : VP Tryd.prog G 25 [.list 2 (l.flatMap cC) l.length, .list 5 (o.flatMap cO) o.length] (.tup [.v (.int .i64 0), .v (.int .i64 (colsF l))]) := by
  refine VC.body Tryd.func25 rfl Tryd.ntmps25 (Nat.le_of_ble_eq_true rfl) fun X0 w0 S00 => ?_
  have hmx : maxLen = 9223372036854775807 := rfl
  refine CD.seq ?_
  refine CD.region ?_
  refine OD.still (wants_plain rfl) rfl (still_as rfl opd_const) ?_
  refine OD.still (wants_plain rfl) rfl (still_as rfl opd_const) ?_
  refine OD.wk (Wk.as_ (n := 18) (l' := [(0, _), (1, _)]) (S' := []) rfl rfl ⟨lk, lk, trivial⟩) ?_
  refine OD.nil ?_
  refine CD.seq ?_
  refine CD.seq ?_
  refine CD.region ?_
  refine OD.still (wants_plain rfl) rfl (still_mv rfl ot) ?_
  refine OD.still (wants_plain rfl) rfl (still_mv rfl ot) ?_
  refine OD.callP (wants_plain rfl) rfl rfl rfl Tryd.call40 (checked_vp hm hw ht l hl hok hbad o) ⟨ot, ot, trivial⟩ ?_
  refine OD.still (wants_plain rfl) rfl (still_as rfl ot) ?_
  refine OD.wk (Wk.as_ (n := 18) (l' := [(0, _), (1, _), (6, _)]) (S' := []) rfl rfl ⟨lk, lk, lk, trivial⟩) ?_
  refine OD.nil ?_
  refine CD.seq ?_
  refine CD.region ?_
  refine OD.still (wants_plain rfl) rfl (still_mv rfl ot) ?_
  refine OD.still (wants_plain rfl) rfl (still_bin rfl ot opd_const bin_neq) ?_
  refine OD.wk (Wk.as_ (n := 18) (l' := [(0, _), (1, _), (6, _), (11, _)]) (S' := []) rfl rfl ⟨lk, lk, lk, lk, trivial⟩) ?_
  refine OD.nil ?_
  refine CD.cond ot (fun hc0 => ?_) (fun hc0 => ?_)
  · have hc0' := hc0
    (try simp only [decide_eq_true_eq, decide_eq_false_iff_not, beq_iff_eq, bne_iff_ne, Bool.not_eq_true', Bool.not_eq_false', Bool.not_eq_true, Bool.not_eq_false, beq_eq_false_iff_ne, ne_eq, bne_eq_false_iff_eq, Bool.and_eq_true, Bool.or_eq_true, Bool.not_not, Bool.and_eq_false_iff, Bool.or_eq_false_iff, Int.not_lt, Int.not_le] at hc0')
    refine CD.seq ?_
    refine CD.region ?_
    refine OD.still (wants_plain rfl) rfl (still_mv rfl ot) ?_
    refine OD.still (wants_plain rfl) rfl (still_as rfl opd_const) ?_
    refine OD.still (wants_plain rfl) rfl (still_as rfl ot) ?_
    refine OD.wk (Wk.as_ (n := 18) (l' := [(4, _), (5, _)]) (S' := []) rfl rfl ⟨lk, lk, trivial⟩) ?_
    refine OD.nil ?_
    refine CD.ret ?_
    refine ⟨.inr rfl, _, [], List.nil_sublist _, ret_two Tryd.results25 (res_tmp (Nat.le_of_ble_eq_true rfl) lk) (res_tmp (Nat.le_of_ble_eq_true rfl) lk), ?_⟩
    exact ⟨rfl, rfl⟩
  · exact absurd hc0 (by simp [hbad])

theorem places61_Pc7 : ∀ w, ((#[{ name := "Name", type := 9, offset := 0, embedded := false, tag := "", pkgPath := "", byteOffset := 0 }, { name := "Kind", type := 3, offset := 1, embedded := false, tag := "", pkgPath := "", byteOffset := 16 }] : Array Field).mapM fun f => do pure (f.offset, ← sizeOf f.type) : Sem (Array (Nat × Nat))).run Tryd.prog w = .ok #[(0, 1), (1, 1)] w := fun w => by simp [Tryd.sizeOf3, Tryd.sizeOf9]

set_option maxHeartbeats 4000000 in
set_option maxRecDepth 100000 in
theorem colsOf_vc : VC Tryd.prog G 24 [] [] (fun r S => ∃ b0, r = .v (.slice (some ⟨b0, 0, none⟩) 4 4) ∧ S = [⟨b0, 61, 8, colsL.flatMap cC⟩]) := by
  refine VC.body Tryd.func24 rfl Tryd.ntmps24 (Nat.le_of_ble_eq_true rfl) fun X0 w0 S00 => ?_
  refine CD.seq ?_
  refine CD.region ?_
  refine OD.still (wants_plain rfl) rfl (still_as rfl opd_const) ?_
  refine OD.wk (Wk.as_ (n := 6) (l' := []) (S' := []) rfl rfl trivial) ?_
  refine OD.nil ?_
  refine CD.seq ?_
  refine CD.region ?_
  refine OD.still (wants_plain rfl) rfl (still_bld (pl := [(0, _), (1, _)]) (ds := [_, _]) rfl Tryd.zeroValue61 Tryd.runUnderlying61 places61_Pc7 ⟨rfl, opd_const, rfl, opd_const, trivial⟩ rfl rfl) ?_
  refine OD.still (wants_plain rfl) rfl (still_bld (pl := [(0, _), (1, _)]) (ds := [_, _]) rfl Tryd.zeroValue61 Tryd.runUnderlying61 places61_Pc7 ⟨rfl, opd_const, rfl, opd_const, trivial⟩ rfl rfl) ?_
  refine OD.still (wants_plain rfl) rfl (still_bld (pl := [(0, _), (1, _)]) (ds := [_, _]) rfl Tryd.zeroValue61 Tryd.runUnderlying61 places61_Pc7 ⟨rfl, opd_const, rfl, opd_const, trivial⟩ rfl rfl) ?_
  refine OD.still (wants_plain rfl) rfl (still_bld (pl := [(0, _), (1, _)]) (ds := [_, _]) rfl Tryd.zeroValue61 Tryd.runUnderlying61 places61_Pc7 ⟨rfl, opd_const, rfl, opd_const, trivial⟩ rfl rfl) ?_
  refine OD.bldS (pl := [(0, _), (1, _), (2, _), (3, _)]) (zvs := [.string ⟨#[]⟩, .int .i64 0, .string ⟨#[]⟩, .int .i64 0, .string ⟨#[]⟩, .int .i64 0, .string ⟨#[]⟩, .int .i64 0]) (ds := [_, _, _, _, _, _, _, _]) (wants_plain rfl) rfl rfl Tryd.zeroValue61 Tryd.runUnderlying56 Tryd.sizeOf61 rfl rfl (by kernel_rfl) ⟨rfl, ot, rfl, ot, rfl, ot, rfl, ot, trivial⟩ rfl rfl (fun b5 => ?_)
  refine OD.still (wants_plain rfl) rfl (still_as rfl ot) ?_
  refine OD.wk (Wk.as_ (n := 6) (l' := [(0, _)]) (S' := [⟨b5, 61, 8, [_, _, _, _, _, _, _, _]⟩]) rfl rfl ⟨lk, trivial⟩) ?_
  refine OD.nil ?_
  refine CD.ret ?_
  refine ⟨.inr rfl, _, _, (List.Sublist.refl _), ret_one Tryd.results24 (res_tmp (Nat.le_of_ble_eq_true rfl) lk), ?_⟩
  exact ⟨_, rfl, rfl⟩

theorem places52_Pc7 : ∀ w, ((#[{ name := "Kind", type := 3, offset := 0, embedded := false, tag := "", pkgPath := "", byteOffset := 0 }, { name := "Value", type := 30, offset := 1, embedded := false, tag := "", pkgPath := "", byteOffset := 8 }, { name := "Name", type := 9, offset := 4, embedded := false, tag := "", pkgPath := "", byteOffset := 40 }] : Array Field).mapM fun f => do pure (f.offset, ← sizeOf f.type) : Sem (Array (Nat × Nat))).run Tryd.prog w = .ok #[(0, 1), (1, 3), (4, 1)] w := fun w => by simp [Tryd.sizeOf3, Tryd.sizeOf30, Tryd.sizeOf9]

set_option maxHeartbeats 4000000 in
set_option maxRecDepth 100000 in
theorem colsbad00_vp (hm : (1, marksC) ∈ G) (hw : (0, wordsC) ∈ G) (ht : (2, typesC) ∈ G) (a : Int) (a1 : -9223372036854775808 ≤ a) (a2 : a ≤ 9223372036854775807) (c : Int) (c1 : -9223372036854775808 ≤ c) (c2 : c ≤ 9223372036854775807) (hj : pickedF a 4 = 0) (hk : pickedF c 3 = 0) : VP Tryd.prog G 12 [.v (.int .i64 a), .v (.int .i64 c)] (.v (.bool true)) := by
  refine VC.body Tryd.func12 rfl Tryd.ntmps12 (Nat.le_of_ble_eq_true rfl) fun X0 w0 S00 => ?_
  have hmx : maxLen = 9223372036854775807 := rfl
  have hbad : colsF [⟨⟨#[105, 100]⟩, 0⟩, ⟨⟨#[110]⟩, 2⟩, ⟨⟨#[115]⟩, 3⟩, ⟨⟨#[98]⟩, 1⟩] = 2 := by simp [colsF, colsA, colF, nm_id, nm_n, nm_s, nm_b, nm_sel, str_list]
  have hsz : ∀ c ∈ ([⟨⟨#[105, 100]⟩, 0⟩, ⟨⟨#[110]⟩, 2⟩, ⟨⟨#[115]⟩, 3⟩, ⟨⟨#[98]⟩, 1⟩] : List ColL), c.n.size ≤ maxLen := cols_sz6 (fun c hc => by simp only [List.mem_cons, List.not_mem_nil, or_false] at hc; rcases hc with rfl | rfl | rfl | rfl <;> exact Nat.le_of_ble_eq_true rfl)
  have hkd := Kind_vp hm hw ht [⟨⟨#[105, 100]⟩, 0⟩, ⟨⟨#[110]⟩, 2⟩, ⟨⟨#[115]⟩, 3⟩, ⟨⟨#[98]⟩, 1⟩] (by decide) hsz (by rw [hbad]; decide) [(⟨1, noVl, ⟨#[]⟩⟩ : OpL)]
  have hcb := Cols_vp hm hw ht [⟨⟨#[105, 100]⟩, 0⟩, ⟨⟨#[110]⟩, 2⟩, ⟨⟨#[115]⟩, 3⟩, ⟨⟨#[98]⟩, 1⟩] (by decide) hsz
  rw [hbad] at hkd hcb
  have hc0 := Cols_vp hm hw ht [] (Nat.zero_le _) (fun c hc => by cases hc)
  rw [cols_none] at hc0
  have hcg := Cols_vp hm hw ht colsL (by decide) cols_sz
  rw [cols_ok] at hcg
  have hpa := picked_vp G a 4 a1 a2 (by decide)
  rw [hj] at hpa
  have hpc := picked_vp G c 3 c1 c2 (by decide)
  rw [hk] at hpc
  have hcn := hc0
  clear hc0
  refine CD.seq ?_
  refine CD.region ?_
  refine OD.still (wants_plain rfl) rfl (still_as rfl opd_const) ?_
  refine OD.wk (Wk.as_ (n := 63) (l' := [(0, _), (1, _)]) (S' := []) rfl rfl ⟨lk, lk, trivial⟩) ?_
  refine OD.nil ?_
  refine CD.seq ?_
  refine CD.region ?_
  refine OD.call (wants_plain rfl) rfl rfl rfl Tryd.call24 colsOf_vc trivial (perm_none _) ?_; rintro _ _ ⟨b10, rfl, rfl⟩
  refine OD.still (wants_plain rfl) rfl (still_as rfl ot) ?_
  refine OD.wk (Wk.as_ (n := 63) (l' := [(0, _), (1, _), (5, _)]) (S' := [⟨b10, 61, 8, [_, _, _, _, _, _, _, _]⟩]) rfl rfl ⟨lk, lk, lk, trivial⟩) ?_
  refine OD.nil ?_
  refine CD.seq ?_
  refine CD.region ?_
  refine OD.still (wants_plain rfl) rfl (still_mv rfl ot) ?_
  refine OD.callP (wants_plain rfl) rfl rfl rfl Tryd.call15 (hpa) ⟨ot, opd_const, trivial⟩ ?_
  refine OD.still (wants_plain rfl) rfl (still_as rfl ot) ?_
  refine OD.wk (Wk.as_ (n := 63) (l' := [(1, _), (5, _), (6, _)]) (S' := [⟨b10, 61, 8, [_, _, _, _, _, _, _, _]⟩]) rfl rfl ⟨lk, lk, lk, trivial⟩) ?_
  refine OD.nil ?_
  refine CD.seq ?_
  refine CD.region ?_
  refine OD.still (wants_plain rfl) rfl (still_as rfl opd_const) ?_
  refine OD.wk (Wk.as_ (n := 63) (l' := [(1, _), (5, _), (6, _), (7, _)]) (S' := [⟨b10, 61, 8, [_, _, _, _, _, _, _, _]⟩]) rfl rfl ⟨lk, lk, lk, lk, trivial⟩) ?_
  refine OD.nil ?_
  refine CD.seq ?_
  refine CD.seq ?_
  refine CD.region ?_
  refine OD.still (wants_plain rfl) rfl (still_mv rfl ot) ?_
  refine OD.callP (wants_plain rfl) rfl rfl rfl Tryd.call15 (hpc) ⟨ot, opd_const, trivial⟩ ?_
  refine OD.wk (Wk.as_ (n := 63) (l' := [(5, _), (6, _), (7, _), (14, _)]) (S' := [⟨b10, 61, 8, [_, _, _, _, _, _, _, _]⟩]) rfl rfl ⟨lk, lk, lk, lk, trivial⟩) ?_
  refine OD.nil ?_
  refine CD.block ?_
  refine CD.seq ?_
  refine CD.region ?_
  refine OD.still (wants_plain rfl) rfl (still_bin rfl ot opd_const bin_eql) ?_
  refine OD.still (wants_plain rfl) rfl (still_as rfl ot) ?_
  refine OD.wk (Wk.as_ (n := 63) (l' := [(5, _), (6, _), (7, _), (14, _), (19, _)]) (S' := [⟨b10, 61, 8, [_, _, _, _, _, _, _, _]⟩]) rfl rfl ⟨lk, lk, lk, lk, lk, trivial⟩) ?_
  refine OD.nil ?_
  refine CD.cond ot (fun hc0 => ?_) (fun hc0 => ?_)
  · have hc0' := hc0
    (try simp only [decide_eq_true_eq, decide_eq_false_iff_not, beq_iff_eq, bne_iff_ne, Bool.not_eq_true', Bool.not_eq_false', Bool.not_eq_true, Bool.not_eq_false, beq_eq_false_iff_ne, ne_eq, bne_eq_false_iff_eq, Bool.and_eq_true, Bool.or_eq_true, Bool.not_not, Bool.and_eq_false_iff, Bool.or_eq_false_iff, Int.not_lt, Int.not_le] at hc0')
    refine CD.region ?_
    refine OD.still (wants_plain rfl) rfl (still_mv rfl ot) ?_
    refine OD.still (wants_plain rfl) rfl (still_mv rfl ot) ?_
    refine OD.still (wants_plain rfl) rfl (still_r2 (mk := Op.indexAddr 56) rfl ot ot (by first | exact ix_list Tryd.runUnderlying56 Tryd.sizeOf61 rfl (by first | assumption | omega) | exact ix_list (j := Int.toNat _) Tryd.runUnderlying56 Tryd.sizeOf61 (Int.toNat_of_nonneg (by omega)).symm (by omega) | exact ix_row Tryd.runUnderlying56 Tryd.sizeOf61 rfl (by first | assumption | omega) | exact ix_row (j := Int.toNat _) Tryd.runUnderlying56 Tryd.sizeOf61 (Int.toNat_of_nonneg (by omega)).symm (by omega))) ?_
    refine OD.still (wants_plain rfl) rfl (still_r1 (mk := fun y => Op.fieldAddr 61 y 1) rfl ot (by first | exact fa_ptr (off := 1) Tryd.runUnderlying61 rfl Tryd.sizeOf3 rfl | exact fa_iptr (off := 1) Tryd.runUnderlying61 rfl Tryd.sizeOf3 rfl)) ?_
    refine OD.storeAt (k := 0) (cs' := [⟨⟨#[105, 100]⟩, 0⟩, ⟨⟨#[110]⟩, 2⟩, ⟨⟨#[115]⟩, 3⟩, ⟨⟨#[98]⟩, 1⟩].flatMap cC) (wants_plain rfl) rfl rfl ot rfl rfl opd_const rfl rfl Tryd.sizeOf3 rfl (Nat.le_of_ble_eq_true rfl) rfl ?_
    refine OD.wk (Wk.as_ (n := 63) (l' := [(5, _), (7, _)]) (S' := [⟨b10, 61, 8, [_, _, _, _, _, _, _, _]⟩]) rfl rfl ⟨lk, lk, trivial⟩) ?_
    refine OD.nil ?_
    refine CD.seq ?_
    refine CD.region ?_
    refine OD.still (wants_plain rfl) rfl (still_mv rfl ot) ?_
    refine OD.still (wants_plain rfl) rfl (still_bld (pl := [(0, _)]) (ds := [_, _, _, _, _]) rfl Tryd.zeroValue52 Tryd.runUnderlying52 places52_Pc7 ⟨rfl, opd_const, trivial⟩ rfl rfl) ?_
    refine OD.bldS (pl := [(0, _)]) (zvs := [.int .i64 0, .int .i64 0, .int .i64 0, .string ⟨#[]⟩, .string ⟨#[]⟩]) (ds := [_, _, _, _, _]) (wants_plain rfl) rfl rfl Tryd.zeroValue52 Tryd.runUnderlying48 Tryd.sizeOf52 rfl rfl (by kernel_rfl) ⟨rfl, ot, trivial⟩ rfl rfl (fun b41 => ?_)
    refine OD.perm (perm_q11 (S1 := [⟨b41, 52, 1 * 5, List.flatMap cO ([(⟨1, noVl, ⟨#[]⟩⟩ : OpL)])⟩]) (A := [_])) ?_
    refine OD.giveL (t := 41) (Sq := [⟨b41, 52, 1 * 5, List.flatMap cO ([(⟨1, noVl, ⟨#[]⟩⟩ : OpL)])⟩]) lk (ownL_row (g := cO) (sz := 5) (e := 52) (ls := [(⟨1, noVl, ⟨#[]⟩⟩ : OpL)]) (Nat.le_refl _) (show 1 ≤ maxLen by decide)) (fm_len cO_len _) (perm_r11 (A := [_])) ?_
    refine OD.look (wants_plain rfl) rfl rfl rfl Tryd.call25 (hkd) rfl ⟨⟨_, ot, (view_row (k := 0) (cs := [⟨⟨#[105, 100]⟩, 0⟩, ⟨⟨#[110]⟩, 2⟩, ⟨⟨#[115]⟩, 3⟩, ⟨⟨#[98]⟩, 1⟩].flatMap cC) rfl rfl rfl rfl (Nat.le_refl _) (show 4 ≤ maxLen by decide))⟩, ⟨_, ot, view_same⟩, trivial⟩ ?_
    refine OD.still (wants_plain rfl) rfl (still_mv rfl ot) ?_
    refine OD.still (wants_plain rfl) rfl (still_extract rfl ot rfl) ?_
    refine OD.still (wants_plain rfl) rfl (still_extract rfl ot rfl) ?_
    refine OD.still (wants_plain rfl) rfl (still_as rfl ot) ?_
    refine OD.still (wants_plain rfl) rfl (still_as rfl ot) ?_
    refine OD.wk (Wk.as_ (n := 63) (l' := [(5, _), (7, _), (9, _)]) (S' := [⟨b10, 61, 8, [_, _, _, _, _, _, _, _]⟩]) rfl rfl ⟨lk, lk, lk, trivial⟩) ?_
    refine OD.nil ?_
    refine CD.seq ?_
    refine CD.region ?_
    refine OD.still (wants_plain rfl) rfl (still_mv rfl ot) ?_
    refine OD.look (wants_plain rfl) rfl rfl rfl Tryd.call26 (hcb) rfl ⟨⟨_, ot, (view_row (k := 0) (cs := [⟨⟨#[105, 100]⟩, 0⟩, ⟨⟨#[110]⟩, 2⟩, ⟨⟨#[115]⟩, 3⟩, ⟨⟨#[98]⟩, 1⟩].flatMap cC) rfl rfl rfl rfl (Nat.le_refl _) (show 4 ≤ maxLen by decide))⟩, trivial⟩ ?_
    refine OD.still (wants_plain rfl) rfl (still_mv rfl ot) ?_
    refine OD.still (wants_plain rfl) rfl (still_bin rfl ot ot bin_eql) ?_
    refine OD.still (wants_plain rfl) rfl (still_mv rfl ot) ?_
    refine OD.split (t := 49) lk (fun hg49 => ?_) (fun hg49 => ?_)
    · have hg49' := hg49; (try simp only [decide_eq_true_eq, decide_eq_false_iff_not, beq_iff_eq, bne_iff_ne, Bool.not_eq_true', Bool.not_eq_false', Bool.not_eq_true, Bool.not_eq_false, beq_eq_false_iff_ne, ne_eq, bne_eq_false_iff_eq, Bool.and_eq_true, Bool.or_eq_true, Bool.not_not] at hg49')
      refine OD.still (wants_T rfl rfl rfl lk (by first | rfl | assumption)) rfl (still_mv rfl ot) ?_
      refine OD.still (wants_T rfl rfl rfl lk (by first | rfl | assumption)) rfl (still_mv rfl ot) ?_
      refine OD.still (wants_T rfl rfl rfl lk (by first | rfl | assumption)) rfl (still_bin rfl ot ot bin_eql) ?_
      refine OD.still (wants_plain rfl) rfl (still_pickT rfl ot (by first | rfl | assumption) ot) ?_
      refine OD.still (wants_plain rfl) rfl (still_mv rfl ot) ?_
      refine OD.split (t := 54) lk (fun hg54 => ?_) (fun hg54 => ?_)
      · have hg54' := hg54; (try simp only [decide_eq_true_eq, decide_eq_false_iff_not, beq_iff_eq, bne_iff_ne, Bool.not_eq_true', Bool.not_eq_false', Bool.not_eq_true, Bool.not_eq_false, beq_eq_false_iff_ne, ne_eq, bne_eq_false_iff_eq, Bool.and_eq_true, Bool.or_eq_true, Bool.not_not] at hg54')
        refine OD.look (wants_T rfl rfl rfl lk (by first | rfl | assumption)) rfl rfl rfl Tryd.call26 (hcn) rfl ⟨⟨_, opd_const, view_nil⟩, trivial⟩ ?_
        refine OD.still (wants_T rfl rfl rfl lk (by first | rfl | assumption)) rfl (still_bin rfl ot opd_const bin_eql) ?_
        refine OD.still (wants_plain rfl) rfl (still_pickT rfl ot (by first | rfl | assumption) ot) ?_
        refine OD.still (wants_plain rfl) rfl (still_mv rfl ot) ?_
        refine OD.split (t := 58) lk (fun hg58 => ?_) (fun hg58 => ?_)
        · have hg58' := hg58; (try simp only [decide_eq_true_eq, decide_eq_false_iff_not, beq_iff_eq, bne_iff_ne, Bool.not_eq_true', Bool.not_eq_false', Bool.not_eq_true, Bool.not_eq_false, beq_eq_false_iff_ne, ne_eq, bne_eq_false_iff_eq, Bool.and_eq_true, Bool.or_eq_true, Bool.not_not] at hg58')
          refine OD.callP (wants_T rfl rfl rfl lk (by first | rfl | assumption)) rfl rfl rfl Tryd.call24 (colsOf_vp) trivial ?_
          refine OD.callP (wants_T rfl rfl rfl lk (by first | rfl | assumption)) rfl rfl rfl Tryd.call26 (hcg) ⟨ot, trivial⟩ ?_
          refine OD.still (wants_T rfl rfl rfl lk (by first | rfl | assumption)) rfl (still_bin rfl ot opd_const bin_eql) ?_
          refine OD.still (wants_plain rfl) rfl (still_pickT rfl ot (by first | rfl | assumption) ot) ?_
          refine OD.still (wants_plain rfl) rfl (still_as rfl ot) ?_
          refine OD.wk (Wk.as_ (n := 63) (l' := [(4, _)]) (S' := [⟨b10, 61, 8, [_, _, _, _, _, _, _, _]⟩]) rfl rfl ⟨lk, trivial⟩) ?_
          refine OD.nil ?_
          refine CD.ret ?_
          refine ⟨.inr rfl, _, [], List.nil_sublist _, ret_one Tryd.results12 (res_tmp (Nat.le_of_ble_eq_true rfl) lk), ?_⟩
          first | exact ⟨rfl, rfl⟩ | (refine ⟨vb ?_, rfl⟩; simp; done)
        · exact absurd hg58 (by simp at hg58)
      · exact absurd hg54 (by simp at hg54)
    · exact absurd hg49 (by simp at hg49)
  · exact absurd hc0 (by simp at hc0)

set_option maxHeartbeats 4000000 in
set_option maxRecDepth 100000 in
theorem colsbad01_vp (hm : (1, marksC) ∈ G) (hw : (0, wordsC) ∈ G) (ht : (2, typesC) ∈ G) (a : Int) (a1 : -9223372036854775808 ≤ a) (a2 : a ≤ 9223372036854775807) (c : Int) (c1 : -9223372036854775808 ≤ c) (c2 : c ≤ 9223372036854775807) (hj : pickedF a 4 = 0) (hk : pickedF c 3 = 1) : VP Tryd.prog G 12 [.v (.int .i64 a), .v (.int .i64 c)] (.v (.bool true)) := by
  refine VC.body Tryd.func12 rfl Tryd.ntmps12 (Nat.le_of_ble_eq_true rfl) fun X0 w0 S00 => ?_
  have hmx : maxLen = 9223372036854775807 := rfl
  have hbad : colsF [⟨⟨#[110]⟩, 2⟩, ⟨⟨#[110]⟩, 2⟩, ⟨⟨#[115]⟩, 3⟩, ⟨⟨#[98]⟩, 1⟩] = 9 := by simp [colsF, colsA, colF, nm_id, nm_n, nm_s, nm_b, nm_sel, str_list]
  have hsz : ∀ c ∈ ([⟨⟨#[110]⟩, 2⟩, ⟨⟨#[110]⟩, 2⟩, ⟨⟨#[115]⟩, 3⟩, ⟨⟨#[98]⟩, 1⟩] : List ColL), c.n.size ≤ maxLen := cols_sz6 (fun c hc => by simp only [List.mem_cons, List.not_mem_nil, or_false] at hc; rcases hc with rfl | rfl | rfl | rfl <;> exact Nat.le_of_ble_eq_true rfl)
  have hkd := Kind_vp hm hw ht [⟨⟨#[110]⟩, 2⟩, ⟨⟨#[110]⟩, 2⟩, ⟨⟨#[115]⟩, 3⟩, ⟨⟨#[98]⟩, 1⟩] (by decide) hsz (by rw [hbad]; decide) [(⟨1, noVl, ⟨#[]⟩⟩ : OpL)]
  have hcb := Cols_vp hm hw ht [⟨⟨#[110]⟩, 2⟩, ⟨⟨#[110]⟩, 2⟩, ⟨⟨#[115]⟩, 3⟩, ⟨⟨#[98]⟩, 1⟩] (by decide) hsz
  rw [hbad] at hkd hcb
  have hc0 := Cols_vp hm hw ht [] (Nat.zero_le _) (fun c hc => by cases hc)
  rw [cols_none] at hc0
  have hcg := Cols_vp hm hw ht colsL (by decide) cols_sz
  rw [cols_ok] at hcg
  have hpa := picked_vp G a 4 a1 a2 (by decide)
  rw [hj] at hpa
  have hpc := picked_vp G c 3 c1 c2 (by decide)
  rw [hk] at hpc
  have hcn := hc0
  clear hc0
  refine CD.seq ?_
  refine CD.region ?_
  refine OD.still (wants_plain rfl) rfl (still_as rfl opd_const) ?_
  refine OD.wk (Wk.as_ (n := 63) (l' := [(0, _), (1, _)]) (S' := []) rfl rfl ⟨lk, lk, trivial⟩) ?_
  refine OD.nil ?_
  refine CD.seq ?_
  refine CD.region ?_
  refine OD.call (wants_plain rfl) rfl rfl rfl Tryd.call24 colsOf_vc trivial (perm_none _) ?_; rintro _ _ ⟨b10, rfl, rfl⟩
  refine OD.still (wants_plain rfl) rfl (still_as rfl ot) ?_
  refine OD.wk (Wk.as_ (n := 63) (l' := [(0, _), (1, _), (5, _)]) (S' := [⟨b10, 61, 8, [_, _, _, _, _, _, _, _]⟩]) rfl rfl ⟨lk, lk, lk, trivial⟩) ?_
  refine OD.nil ?_
  refine CD.seq ?_
  refine CD.region ?_
  refine OD.still (wants_plain rfl) rfl (still_mv rfl ot) ?_
  refine OD.callP (wants_plain rfl) rfl rfl rfl Tryd.call15 (hpa) ⟨ot, opd_const, trivial⟩ ?_
  refine OD.still (wants_plain rfl) rfl (still_as rfl ot) ?_
  refine OD.wk (Wk.as_ (n := 63) (l' := [(1, _), (5, _), (6, _)]) (S' := [⟨b10, 61, 8, [_, _, _, _, _, _, _, _]⟩]) rfl rfl ⟨lk, lk, lk, trivial⟩) ?_
  refine OD.nil ?_
  refine CD.seq ?_
  refine CD.region ?_
  refine OD.still (wants_plain rfl) rfl (still_as rfl opd_const) ?_
  refine OD.wk (Wk.as_ (n := 63) (l' := [(1, _), (5, _), (6, _), (7, _)]) (S' := [⟨b10, 61, 8, [_, _, _, _, _, _, _, _]⟩]) rfl rfl ⟨lk, lk, lk, lk, trivial⟩) ?_
  refine OD.nil ?_
  refine CD.seq ?_
  refine CD.seq ?_
  refine CD.region ?_
  refine OD.still (wants_plain rfl) rfl (still_mv rfl ot) ?_
  refine OD.callP (wants_plain rfl) rfl rfl rfl Tryd.call15 (hpc) ⟨ot, opd_const, trivial⟩ ?_
  refine OD.wk (Wk.as_ (n := 63) (l' := [(5, _), (6, _), (7, _), (14, _)]) (S' := [⟨b10, 61, 8, [_, _, _, _, _, _, _, _]⟩]) rfl rfl ⟨lk, lk, lk, lk, trivial⟩) ?_
  refine OD.nil ?_
  refine CD.block ?_
  refine CD.seq ?_
  refine CD.region ?_
  refine OD.still (wants_plain rfl) rfl (still_bin rfl ot opd_const bin_eql) ?_
  refine OD.still (wants_plain rfl) rfl (still_as rfl ot) ?_
  refine OD.wk (Wk.as_ (n := 63) (l' := [(5, _), (6, _), (7, _), (14, _), (19, _)]) (S' := [⟨b10, 61, 8, [_, _, _, _, _, _, _, _]⟩]) rfl rfl ⟨lk, lk, lk, lk, lk, trivial⟩) ?_
  refine OD.nil ?_
  refine CD.cond ot (fun hc0 => ?_) (fun hc0 => ?_)
  · exact absurd hc0 (by simp at hc0)
  · have hc0' := hc0
    (try simp only [decide_eq_true_eq, decide_eq_false_iff_not, beq_iff_eq, bne_iff_ne, Bool.not_eq_true', Bool.not_eq_false', Bool.not_eq_true, Bool.not_eq_false, beq_eq_false_iff_ne, ne_eq, bne_eq_false_iff_eq, Bool.and_eq_true, Bool.or_eq_true, Bool.not_not, Bool.and_eq_false_iff, Bool.or_eq_false_iff, Int.not_lt, Int.not_le] at hc0')
    refine CD.seq ?_
    refine CD.region ?_
    refine OD.still (wants_plain rfl) rfl (still_bin rfl ot opd_const bin_eql) ?_
    refine OD.still (wants_plain rfl) rfl (still_as rfl ot) ?_
    refine OD.wk (Wk.as_ (n := 63) (l' := [(5, _), (6, _), (25, _)]) (S' := [⟨b10, 61, 8, [_, _, _, _, _, _, _, _]⟩]) rfl rfl ⟨lk, lk, lk, trivial⟩) ?_
    refine OD.nil ?_
    refine CD.cond ot (fun hc1 => ?_) (fun hc1 => ?_)
    · have hc1' := hc1
      (try simp only [decide_eq_true_eq, decide_eq_false_iff_not, beq_iff_eq, bne_iff_ne, Bool.not_eq_true', Bool.not_eq_false', Bool.not_eq_true, Bool.not_eq_false, beq_eq_false_iff_ne, ne_eq, bne_eq_false_iff_eq, Bool.and_eq_true, Bool.or_eq_true, Bool.not_not, Bool.and_eq_false_iff, Bool.or_eq_false_iff, Int.not_lt, Int.not_le] at hc1')
      refine CD.seq ?_
      refine CD.region ?_
      refine OD.still (wants_plain rfl) rfl (still_mv rfl ot) ?_
      refine OD.still (wants_plain rfl) rfl (still_mv rfl ot) ?_
      refine OD.still (wants_plain rfl) rfl (still_mv rfl ot) ?_
      refine OD.still (wants_plain rfl) rfl (still_mv rfl ot) ?_
      refine OD.still (wants_plain rfl) rfl (still_bin rfl ot opd_const (bin_add (wrap_i64 (by omega) (by omega)))) ?_
      refine OD.still (wants_plain rfl) rfl (still_bin (r := .int .i64 1) rfl ot opd_const (bin_rem (show (4 : Int) ≠ 0 by decide))) ?_
      refine OD.still (wants_plain rfl) rfl (still_r2 (mk := Op.indexAddr 56) rfl ot ot (by first | exact ix_list Tryd.runUnderlying56 Tryd.sizeOf61 rfl (by first | assumption | omega) | exact ix_list (j := Int.toNat _) Tryd.runUnderlying56 Tryd.sizeOf61 (Int.toNat_of_nonneg (by omega)).symm (by omega) | exact ix_row Tryd.runUnderlying56 Tryd.sizeOf61 rfl (by first | assumption | omega) | exact ix_row (j := Int.toNat _) Tryd.runUnderlying56 Tryd.sizeOf61 (Int.toNat_of_nonneg (by omega)).symm (by omega))) ?_
      refine OD.still (wants_plain rfl) rfl (still_r1 (mk := fun y => Op.fieldAddr 61 y 0) rfl ot (by first | exact fa_ptr (off := 0) Tryd.runUnderlying61 rfl Tryd.sizeOf9 rfl | exact fa_iptr (off := 0) Tryd.runUnderlying61 rfl Tryd.sizeOf9 rfl)) ?_
      refine OD.still (wants_plain rfl) rfl (still_r1 (mk := Op.load 9) rfl ot (by first | exact ld_blk (k := 0) rfl rfl Tryd.isAgg9 rfl | exact ld_fm cC_len Tryd.isAgg9 (by first | assumption | omega) rfl | exact ld_fm0 cC_len Tryd.isAgg9 (by first | assumption | omega) rfl | exact ld_row (k := 0) cC_len rfl rfl rfl Tryd.isAgg9 (by first | assumption | omega) rfl | exact ld_row0 (k := 0) cC_len rfl rfl rfl Tryd.isAgg9 (by first | assumption | omega) rfl | exact ld_i Tryd.isAgg9 rfl)) ?_
      refine OD.still (wants_plain rfl) rfl (still_r2 (mk := Op.indexAddr 56) rfl ot ot (by first | exact ix_list Tryd.runUnderlying56 Tryd.sizeOf61 rfl (by first | assumption | omega) | exact ix_list (j := Int.toNat _) Tryd.runUnderlying56 Tryd.sizeOf61 (Int.toNat_of_nonneg (by omega)).symm (by omega) | exact ix_row Tryd.runUnderlying56 Tryd.sizeOf61 rfl (by first | assumption | omega) | exact ix_row (j := Int.toNat _) Tryd.runUnderlying56 Tryd.sizeOf61 (Int.toNat_of_nonneg (by omega)).symm (by omega))) ?_
      refine OD.still (wants_plain rfl) rfl (still_r1 (mk := fun y => Op.fieldAddr 61 y 0) rfl ot (by first | exact fa_ptr (off := 0) Tryd.runUnderlying61 rfl Tryd.sizeOf9 rfl | exact fa_iptr (off := 0) Tryd.runUnderlying61 rfl Tryd.sizeOf9 rfl)) ?_
      refine OD.storeAt (k := 0) (cs' := [⟨⟨#[110]⟩, 2⟩, ⟨⟨#[110]⟩, 2⟩, ⟨⟨#[115]⟩, 3⟩, ⟨⟨#[98]⟩, 1⟩].flatMap cC) (wants_plain rfl) rfl rfl ot rfl rfl ot rfl rfl Tryd.sizeOf9 rfl (Nat.le_of_ble_eq_true rfl) rfl ?_
      refine OD.wk (Wk.as_ (n := 63) (l' := [(5, _)]) (S' := [⟨b10, 61, 8, [_, _, _, _, _, _, _, _]⟩]) rfl rfl ⟨lk, trivial⟩) ?_
      refine OD.nil ?_
      refine CD.region ?_
      refine OD.still (wants_plain rfl) rfl (still_as rfl opd_const) ?_
      refine OD.wk (Wk.as_ (n := 63) (l' := [(5, _), (7, _)]) (S' := [⟨b10, 61, 8, [_, _, _, _, _, _, _, _]⟩]) rfl rfl ⟨lk, lk, trivial⟩) ?_
      refine OD.nil ?_
      refine CD.seq ?_
      refine CD.region ?_
      refine OD.still (wants_plain rfl) rfl (still_mv rfl ot) ?_
      refine OD.still (wants_plain rfl) rfl (still_bld (pl := [(0, _)]) (ds := [_, _, _, _, _]) rfl Tryd.zeroValue52 Tryd.runUnderlying52 places52_Pc7 ⟨rfl, opd_const, trivial⟩ rfl rfl) ?_
      refine OD.bldS (pl := [(0, _)]) (zvs := [.int .i64 0, .int .i64 0, .int .i64 0, .string ⟨#[]⟩, .string ⟨#[]⟩]) (ds := [_, _, _, _, _]) (wants_plain rfl) rfl rfl Tryd.zeroValue52 Tryd.runUnderlying48 Tryd.sizeOf52 rfl rfl (by kernel_rfl) ⟨rfl, ot, trivial⟩ rfl rfl (fun b41 => ?_)
      refine OD.perm (perm_q11 (S1 := [⟨b41, 52, 1 * 5, List.flatMap cO ([(⟨1, noVl, ⟨#[]⟩⟩ : OpL)])⟩]) (A := [_])) ?_
      refine OD.giveL (t := 41) (Sq := [⟨b41, 52, 1 * 5, List.flatMap cO ([(⟨1, noVl, ⟨#[]⟩⟩ : OpL)])⟩]) lk (ownL_row (g := cO) (sz := 5) (e := 52) (ls := [(⟨1, noVl, ⟨#[]⟩⟩ : OpL)]) (Nat.le_refl _) (show 1 ≤ maxLen by decide)) (fm_len cO_len _) (perm_r11 (A := [_])) ?_
      refine OD.look (wants_plain rfl) rfl rfl rfl Tryd.call25 (hkd) rfl ⟨⟨_, ot, (view_row (k := 0) (cs := [⟨⟨#[110]⟩, 2⟩, ⟨⟨#[110]⟩, 2⟩, ⟨⟨#[115]⟩, 3⟩, ⟨⟨#[98]⟩, 1⟩].flatMap cC) rfl rfl rfl rfl (Nat.le_refl _) (show 4 ≤ maxLen by decide))⟩, ⟨_, ot, view_same⟩, trivial⟩ ?_
      refine OD.still (wants_plain rfl) rfl (still_mv rfl ot) ?_
      refine OD.still (wants_plain rfl) rfl (still_extract rfl ot rfl) ?_
      refine OD.still (wants_plain rfl) rfl (still_extract rfl ot rfl) ?_
      refine OD.still (wants_plain rfl) rfl (still_as rfl ot) ?_
      refine OD.still (wants_plain rfl) rfl (still_as rfl ot) ?_
      refine OD.wk (Wk.as_ (n := 63) (l' := [(5, _), (7, _), (9, _)]) (S' := [⟨b10, 61, 8, [_, _, _, _, _, _, _, _]⟩]) rfl rfl ⟨lk, lk, lk, trivial⟩) ?_
      refine OD.nil ?_
      refine CD.seq ?_
      refine CD.region ?_
      refine OD.still (wants_plain rfl) rfl (still_mv rfl ot) ?_
      refine OD.look (wants_plain rfl) rfl rfl rfl Tryd.call26 (hcb) rfl ⟨⟨_, ot, (view_row (k := 0) (cs := [⟨⟨#[110]⟩, 2⟩, ⟨⟨#[110]⟩, 2⟩, ⟨⟨#[115]⟩, 3⟩, ⟨⟨#[98]⟩, 1⟩].flatMap cC) rfl rfl rfl rfl (Nat.le_refl _) (show 4 ≤ maxLen by decide))⟩, trivial⟩ ?_
      refine OD.still (wants_plain rfl) rfl (still_mv rfl ot) ?_
      refine OD.still (wants_plain rfl) rfl (still_bin rfl ot ot bin_eql) ?_
      refine OD.still (wants_plain rfl) rfl (still_mv rfl ot) ?_
      refine OD.split (t := 49) lk (fun hg49 => ?_) (fun hg49 => ?_)
      · have hg49' := hg49; (try simp only [decide_eq_true_eq, decide_eq_false_iff_not, beq_iff_eq, bne_iff_ne, Bool.not_eq_true', Bool.not_eq_false', Bool.not_eq_true, Bool.not_eq_false, beq_eq_false_iff_ne, ne_eq, bne_eq_false_iff_eq, Bool.and_eq_true, Bool.or_eq_true, Bool.not_not] at hg49')
        refine OD.still (wants_T rfl rfl rfl lk (by first | rfl | assumption)) rfl (still_mv rfl ot) ?_
        refine OD.still (wants_T rfl rfl rfl lk (by first | rfl | assumption)) rfl (still_mv rfl ot) ?_
        refine OD.still (wants_T rfl rfl rfl lk (by first | rfl | assumption)) rfl (still_bin rfl ot ot bin_eql) ?_
        refine OD.still (wants_plain rfl) rfl (still_pickT rfl ot (by first | rfl | assumption) ot) ?_
        refine OD.still (wants_plain rfl) rfl (still_mv rfl ot) ?_
        refine OD.split (t := 54) lk (fun hg54 => ?_) (fun hg54 => ?_)
        · have hg54' := hg54; (try simp only [decide_eq_true_eq, decide_eq_false_iff_not, beq_iff_eq, bne_iff_ne, Bool.not_eq_true', Bool.not_eq_false', Bool.not_eq_true, Bool.not_eq_false, beq_eq_false_iff_ne, ne_eq, bne_eq_false_iff_eq, Bool.and_eq_true, Bool.or_eq_true, Bool.not_not] at hg54')
          refine OD.look (wants_T rfl rfl rfl lk (by first | rfl | assumption)) rfl rfl rfl Tryd.call26 (hcn) rfl ⟨⟨_, opd_const, view_nil⟩, trivial⟩ ?_
          refine OD.still (wants_T rfl rfl rfl lk (by first | rfl | assumption)) rfl (still_bin rfl ot opd_const bin_eql) ?_
          refine OD.still (wants_plain rfl) rfl (still_pickT rfl ot (by first | rfl | assumption) ot) ?_
          refine OD.still (wants_plain rfl) rfl (still_mv rfl ot) ?_
          refine OD.split (t := 58) lk (fun hg58 => ?_) (fun hg58 => ?_)
          · have hg58' := hg58; (try simp only [decide_eq_true_eq, decide_eq_false_iff_not, beq_iff_eq, bne_iff_ne, Bool.not_eq_true', Bool.not_eq_false', Bool.not_eq_true, Bool.not_eq_false, beq_eq_false_iff_ne, ne_eq, bne_eq_false_iff_eq, Bool.and_eq_true, Bool.or_eq_true, Bool.not_not] at hg58')
            refine OD.callP (wants_T rfl rfl rfl lk (by first | rfl | assumption)) rfl rfl rfl Tryd.call24 (colsOf_vp) trivial ?_
            refine OD.callP (wants_T rfl rfl rfl lk (by first | rfl | assumption)) rfl rfl rfl Tryd.call26 (hcg) ⟨ot, trivial⟩ ?_
            refine OD.still (wants_T rfl rfl rfl lk (by first | rfl | assumption)) rfl (still_bin rfl ot opd_const bin_eql) ?_
            refine OD.still (wants_plain rfl) rfl (still_pickT rfl ot (by first | rfl | assumption) ot) ?_
            refine OD.still (wants_plain rfl) rfl (still_as rfl ot) ?_
            refine OD.wk (Wk.as_ (n := 63) (l' := [(4, _)]) (S' := [⟨b10, 61, 8, [_, _, _, _, _, _, _, _]⟩]) rfl rfl ⟨lk, trivial⟩) ?_
            refine OD.nil ?_
            refine CD.ret ?_
            refine ⟨.inr rfl, _, [], List.nil_sublist _, ret_one Tryd.results12 (res_tmp (Nat.le_of_ble_eq_true rfl) lk), ?_⟩
            first | exact ⟨rfl, rfl⟩ | (refine ⟨vb ?_, rfl⟩; simp; done)
          · exact absurd hg58 (by simp at hg58)
        · exact absurd hg54 (by simp at hg54)
      · exact absurd hg49 (by simp at hg49)
    · exact absurd hc1 (by simp at hc1)

set_option maxHeartbeats 4000000 in
set_option maxRecDepth 100000 in
theorem colsbad02_vp (hm : (1, marksC) ∈ G) (hw : (0, wordsC) ∈ G) (ht : (2, typesC) ∈ G) (a : Int) (a1 : -9223372036854775808 ≤ a) (a2 : a ≤ 9223372036854775807) (c : Int) (c1 : -9223372036854775808 ≤ c) (c2 : c ≤ 9223372036854775807) (hj : pickedF a 4 = 0) (hk : pickedF c 3 = 2) : VP Tryd.prog G 12 [.v (.int .i64 a), .v (.int .i64 c)] (.v (.bool true)) := by
  refine VC.body Tryd.func12 rfl Tryd.ntmps12 (Nat.le_of_ble_eq_true rfl) fun X0 w0 S00 => ?_
  have hmx : maxLen = 9223372036854775807 := rfl
  have hbad : colsF [⟨⟨#[83, 69, 76, 69, 67, 84]⟩, 2⟩, ⟨⟨#[110]⟩, 2⟩, ⟨⟨#[115]⟩, 3⟩, ⟨⟨#[98]⟩, 1⟩] = 6 := by simp [colsF, colsA, colF, nm_id, nm_n, nm_s, nm_b, nm_sel, str_list]
  have hsz : ∀ c ∈ ([⟨⟨#[83, 69, 76, 69, 67, 84]⟩, 2⟩, ⟨⟨#[110]⟩, 2⟩, ⟨⟨#[115]⟩, 3⟩, ⟨⟨#[98]⟩, 1⟩] : List ColL), c.n.size ≤ maxLen := cols_sz6 (fun c hc => by simp only [List.mem_cons, List.not_mem_nil, or_false] at hc; rcases hc with rfl | rfl | rfl | rfl <;> exact Nat.le_of_ble_eq_true rfl)
  have hkd := Kind_vp hm hw ht [⟨⟨#[83, 69, 76, 69, 67, 84]⟩, 2⟩, ⟨⟨#[110]⟩, 2⟩, ⟨⟨#[115]⟩, 3⟩, ⟨⟨#[98]⟩, 1⟩] (by decide) hsz (by rw [hbad]; decide) [(⟨1, noVl, ⟨#[]⟩⟩ : OpL)]
  have hcb := Cols_vp hm hw ht [⟨⟨#[83, 69, 76, 69, 67, 84]⟩, 2⟩, ⟨⟨#[110]⟩, 2⟩, ⟨⟨#[115]⟩, 3⟩, ⟨⟨#[98]⟩, 1⟩] (by decide) hsz
  rw [hbad] at hkd hcb
  have hc0 := Cols_vp hm hw ht [] (Nat.zero_le _) (fun c hc => by cases hc)
  rw [cols_none] at hc0
  have hcg := Cols_vp hm hw ht colsL (by decide) cols_sz
  rw [cols_ok] at hcg
  have hpa := picked_vp G a 4 a1 a2 (by decide)
  rw [hj] at hpa
  have hpc := picked_vp G c 3 c1 c2 (by decide)
  rw [hk] at hpc
  have hcn := hc0
  clear hc0
  refine CD.seq ?_
  refine CD.region ?_
  refine OD.still (wants_plain rfl) rfl (still_as rfl opd_const) ?_
  refine OD.wk (Wk.as_ (n := 63) (l' := [(0, _), (1, _)]) (S' := []) rfl rfl ⟨lk, lk, trivial⟩) ?_
  refine OD.nil ?_
  refine CD.seq ?_
  refine CD.region ?_
  refine OD.call (wants_plain rfl) rfl rfl rfl Tryd.call24 colsOf_vc trivial (perm_none _) ?_; rintro _ _ ⟨b10, rfl, rfl⟩
  refine OD.still (wants_plain rfl) rfl (still_as rfl ot) ?_
  refine OD.wk (Wk.as_ (n := 63) (l' := [(0, _), (1, _), (5, _)]) (S' := [⟨b10, 61, 8, [_, _, _, _, _, _, _, _]⟩]) rfl rfl ⟨lk, lk, lk, trivial⟩) ?_
  refine OD.nil ?_
  refine CD.seq ?_
  refine CD.region ?_
  refine OD.still (wants_plain rfl) rfl (still_mv rfl ot) ?_
  refine OD.callP (wants_plain rfl) rfl rfl rfl Tryd.call15 (hpa) ⟨ot, opd_const, trivial⟩ ?_
  refine OD.still (wants_plain rfl) rfl (still_as rfl ot) ?_
  refine OD.wk (Wk.as_ (n := 63) (l' := [(1, _), (5, _), (6, _)]) (S' := [⟨b10, 61, 8, [_, _, _, _, _, _, _, _]⟩]) rfl rfl ⟨lk, lk, lk, trivial⟩) ?_
  refine OD.nil ?_
  refine CD.seq ?_
  refine CD.region ?_
  refine OD.still (wants_plain rfl) rfl (still_as rfl opd_const) ?_
  refine OD.wk (Wk.as_ (n := 63) (l' := [(1, _), (5, _), (6, _), (7, _)]) (S' := [⟨b10, 61, 8, [_, _, _, _, _, _, _, _]⟩]) rfl rfl ⟨lk, lk, lk, lk, trivial⟩) ?_
  refine OD.nil ?_
  refine CD.seq ?_
  refine CD.seq ?_
  refine CD.region ?_
  refine OD.still (wants_plain rfl) rfl (still_mv rfl ot) ?_
  refine OD.callP (wants_plain rfl) rfl rfl rfl Tryd.call15 (hpc) ⟨ot, opd_const, trivial⟩ ?_
  refine OD.wk (Wk.as_ (n := 63) (l' := [(5, _), (6, _), (7, _), (14, _)]) (S' := [⟨b10, 61, 8, [_, _, _, _, _, _, _, _]⟩]) rfl rfl ⟨lk, lk, lk, lk, trivial⟩) ?_
  refine OD.nil ?_
  refine CD.block ?_
  refine CD.seq ?_
  refine CD.region ?_
  refine OD.still (wants_plain rfl) rfl (still_bin rfl ot opd_const bin_eql) ?_
  refine OD.still (wants_plain rfl) rfl (still_as rfl ot) ?_
  refine OD.wk (Wk.as_ (n := 63) (l' := [(5, _), (6, _), (7, _), (14, _), (19, _)]) (S' := [⟨b10, 61, 8, [_, _, _, _, _, _, _, _]⟩]) rfl rfl ⟨lk, lk, lk, lk, lk, trivial⟩) ?_
  refine OD.nil ?_
  refine CD.cond ot (fun hc0 => ?_) (fun hc0 => ?_)
  · exact absurd hc0 (by simp at hc0)
  · have hc0' := hc0
    (try simp only [decide_eq_true_eq, decide_eq_false_iff_not, beq_iff_eq, bne_iff_ne, Bool.not_eq_true', Bool.not_eq_false', Bool.not_eq_true, Bool.not_eq_false, beq_eq_false_iff_ne, ne_eq, bne_eq_false_iff_eq, Bool.and_eq_true, Bool.or_eq_true, Bool.not_not, Bool.and_eq_false_iff, Bool.or_eq_false_iff, Int.not_lt, Int.not_le] at hc0')
    refine CD.seq ?_
    refine CD.region ?_
    refine OD.still (wants_plain rfl) rfl (still_bin rfl ot opd_const bin_eql) ?_
    refine OD.still (wants_plain rfl) rfl (still_as rfl ot) ?_
    refine OD.wk (Wk.as_ (n := 63) (l' := [(5, _), (6, _), (25, _)]) (S' := [⟨b10, 61, 8, [_, _, _, _, _, _, _, _]⟩]) rfl rfl ⟨lk, lk, lk, trivial⟩) ?_
    refine OD.nil ?_
    refine CD.cond ot (fun hc1 => ?_) (fun hc1 => ?_)
    · exact absurd hc1 (by simp at hc1)
    · have hc1' := hc1
      (try simp only [decide_eq_true_eq, decide_eq_false_iff_not, beq_iff_eq, bne_iff_ne, Bool.not_eq_true', Bool.not_eq_false', Bool.not_eq_true, Bool.not_eq_false, beq_eq_false_iff_ne, ne_eq, bne_eq_false_iff_eq, Bool.and_eq_true, Bool.or_eq_true, Bool.not_not, Bool.and_eq_false_iff, Bool.or_eq_false_iff, Int.not_lt, Int.not_le] at hc1')
      refine CD.seq ?_
      refine CD.region ?_
      refine OD.still (wants_plain rfl) rfl (still_mv rfl ot) ?_
      refine OD.still (wants_plain rfl) rfl (still_mv rfl ot) ?_
      refine OD.still (wants_plain rfl) rfl (still_r2 (mk := Op.indexAddr 56) rfl ot ot (by first | exact ix_list Tryd.runUnderlying56 Tryd.sizeOf61 rfl (by first | assumption | omega) | exact ix_list (j := Int.toNat _) Tryd.runUnderlying56 Tryd.sizeOf61 (Int.toNat_of_nonneg (by omega)).symm (by omega) | exact ix_row Tryd.runUnderlying56 Tryd.sizeOf61 rfl (by first | assumption | omega) | exact ix_row (j := Int.toNat _) Tryd.runUnderlying56 Tryd.sizeOf61 (Int.toNat_of_nonneg (by omega)).symm (by omega))) ?_
      refine OD.still (wants_plain rfl) rfl (still_r1 (mk := fun y => Op.fieldAddr 61 y 0) rfl ot (by first | exact fa_ptr (off := 0) Tryd.runUnderlying61 rfl Tryd.sizeOf9 rfl | exact fa_iptr (off := 0) Tryd.runUnderlying61 rfl Tryd.sizeOf9 rfl)) ?_
      refine OD.storeAt (k := 0) (cs' := [⟨⟨#[83, 69, 76, 69, 67, 84]⟩, 2⟩, ⟨⟨#[110]⟩, 2⟩, ⟨⟨#[115]⟩, 3⟩, ⟨⟨#[98]⟩, 1⟩].flatMap cC) (wants_plain rfl) rfl rfl ot rfl rfl opd_const rfl rfl Tryd.sizeOf9 rfl (Nat.le_of_ble_eq_true rfl) rfl ?_
      refine OD.wk (Wk.as_ (n := 63) (l' := [(5, _)]) (S' := [⟨b10, 61, 8, [_, _, _, _, _, _, _, _]⟩]) rfl rfl ⟨lk, trivial⟩) ?_
      refine OD.nil ?_
      refine CD.region ?_
      refine OD.still (wants_plain rfl) rfl (still_as rfl opd_const) ?_
      refine OD.wk (Wk.as_ (n := 63) (l' := [(5, _), (7, _)]) (S' := [⟨b10, 61, 8, [_, _, _, _, _, _, _, _]⟩]) rfl rfl ⟨lk, lk, trivial⟩) ?_
      refine OD.nil ?_
      refine CD.seq ?_
      refine CD.region ?_
      refine OD.still (wants_plain rfl) rfl (still_mv rfl ot) ?_
      refine OD.still (wants_plain rfl) rfl (still_bld (pl := [(0, _)]) (ds := [_, _, _, _, _]) rfl Tryd.zeroValue52 Tryd.runUnderlying52 places52_Pc7 ⟨rfl, opd_const, trivial⟩ rfl rfl) ?_
      refine OD.bldS (pl := [(0, _)]) (zvs := [.int .i64 0, .int .i64 0, .int .i64 0, .string ⟨#[]⟩, .string ⟨#[]⟩]) (ds := [_, _, _, _, _]) (wants_plain rfl) rfl rfl Tryd.zeroValue52 Tryd.runUnderlying48 Tryd.sizeOf52 rfl rfl (by kernel_rfl) ⟨rfl, ot, trivial⟩ rfl rfl (fun b41 => ?_)
      refine OD.perm (perm_q11 (S1 := [⟨b41, 52, 1 * 5, List.flatMap cO ([(⟨1, noVl, ⟨#[]⟩⟩ : OpL)])⟩]) (A := [_])) ?_
      refine OD.giveL (t := 41) (Sq := [⟨b41, 52, 1 * 5, List.flatMap cO ([(⟨1, noVl, ⟨#[]⟩⟩ : OpL)])⟩]) lk (ownL_row (g := cO) (sz := 5) (e := 52) (ls := [(⟨1, noVl, ⟨#[]⟩⟩ : OpL)]) (Nat.le_refl _) (show 1 ≤ maxLen by decide)) (fm_len cO_len _) (perm_r11 (A := [_])) ?_
      refine OD.look (wants_plain rfl) rfl rfl rfl Tryd.call25 (hkd) rfl ⟨⟨_, ot, (view_row (k := 0) (cs := [⟨⟨#[83, 69, 76, 69, 67, 84]⟩, 2⟩, ⟨⟨#[110]⟩, 2⟩, ⟨⟨#[115]⟩, 3⟩, ⟨⟨#[98]⟩, 1⟩].flatMap cC) rfl rfl rfl rfl (Nat.le_refl _) (show 4 ≤ maxLen by decide))⟩, ⟨_, ot, view_same⟩, trivial⟩ ?_
      refine OD.still (wants_plain rfl) rfl (still_mv rfl ot) ?_
      refine OD.still (wants_plain rfl) rfl (still_extract rfl ot rfl) ?_
      refine OD.still (wants_plain rfl) rfl (still_extract rfl ot rfl) ?_
      refine OD.still (wants_plain rfl) rfl (still_as rfl ot) ?_
      refine OD.still (wants_plain rfl) rfl (still_as rfl ot) ?_
      refine OD.wk (Wk.as_ (n := 63) (l' := [(5, _), (7, _), (9, _)]) (S' := [⟨b10, 61, 8, [_, _, _, _, _, _, _, _]⟩]) rfl rfl ⟨lk, lk, lk, trivial⟩) ?_
      refine OD.nil ?_
      refine CD.seq ?_
      refine CD.region ?_
      refine OD.still (wants_plain rfl) rfl (still_mv rfl ot) ?_
      refine OD.look (wants_plain rfl) rfl rfl rfl Tryd.call26 (hcb) rfl ⟨⟨_, ot, (view_row (k := 0) (cs := [⟨⟨#[83, 69, 76, 69, 67, 84]⟩, 2⟩, ⟨⟨#[110]⟩, 2⟩, ⟨⟨#[115]⟩, 3⟩, ⟨⟨#[98]⟩, 1⟩].flatMap cC) rfl rfl rfl rfl (Nat.le_refl _) (show 4 ≤ maxLen by decide))⟩, trivial⟩ ?_
      refine OD.still (wants_plain rfl) rfl (still_mv rfl ot) ?_
      refine OD.still (wants_plain rfl) rfl (still_bin rfl ot ot bin_eql) ?_
      refine OD.still (wants_plain rfl) rfl (still_mv rfl ot) ?_
      refine OD.split (t := 49) lk (fun hg49 => ?_) (fun hg49 => ?_)
      · have hg49' := hg49; (try simp only [decide_eq_true_eq, decide_eq_false_iff_not, beq_iff_eq, bne_iff_ne, Bool.not_eq_true', Bool.not_eq_false', Bool.not_eq_true, Bool.not_eq_false, beq_eq_false_iff_ne, ne_eq, bne_eq_false_iff_eq, Bool.and_eq_true, Bool.or_eq_true, Bool.not_not] at hg49')
        refine OD.still (wants_T rfl rfl rfl lk (by first | rfl | assumption)) rfl (still_mv rfl ot) ?_
        refine OD.still (wants_T rfl rfl rfl lk (by first | rfl | assumption)) rfl (still_mv rfl ot) ?_
        refine OD.still (wants_T rfl rfl rfl lk (by first | rfl | assumption)) rfl (still_bin rfl ot ot bin_eql) ?_
        refine OD.still (wants_plain rfl) rfl (still_pickT rfl ot (by first | rfl | assumption) ot) ?_
        refine OD.still (wants_plain rfl) rfl (still_mv rfl ot) ?_
        refine OD.split (t := 54) lk (fun hg54 => ?_) (fun hg54 => ?_)
        · have hg54' := hg54; (try simp only [decide_eq_true_eq, decide_eq_false_iff_not, beq_iff_eq, bne_iff_ne, Bool.not_eq_true', Bool.not_eq_false', Bool.not_eq_true, Bool.not_eq_false, beq_eq_false_iff_ne, ne_eq, bne_eq_false_iff_eq, Bool.and_eq_true, Bool.or_eq_true, Bool.not_not] at hg54')
          refine OD.look (wants_T rfl rfl rfl lk (by first | rfl | assumption)) rfl rfl rfl Tryd.call26 (hcn) rfl ⟨⟨_, opd_const, view_nil⟩, trivial⟩ ?_
          refine OD.still (wants_T rfl rfl rfl lk (by first | rfl | assumption)) rfl (still_bin rfl ot opd_const bin_eql) ?_
          refine OD.still (wants_plain rfl) rfl (still_pickT rfl ot (by first | rfl | assumption) ot) ?_
          refine OD.still (wants_plain rfl) rfl (still_mv rfl ot) ?_
          refine OD.split (t := 58) lk (fun hg58 => ?_) (fun hg58 => ?_)
          · have hg58' := hg58; (try simp only [decide_eq_true_eq, decide_eq_false_iff_not, beq_iff_eq, bne_iff_ne, Bool.not_eq_true', Bool.not_eq_false', Bool.not_eq_true, Bool.not_eq_false, beq_eq_false_iff_ne, ne_eq, bne_eq_false_iff_eq, Bool.and_eq_true, Bool.or_eq_true, Bool.not_not] at hg58')
            refine OD.callP (wants_T rfl rfl rfl lk (by first | rfl | assumption)) rfl rfl rfl Tryd.call24 (colsOf_vp) trivial ?_
            refine OD.callP (wants_T rfl rfl rfl lk (by first | rfl | assumption)) rfl rfl rfl Tryd.call26 (hcg) ⟨ot, trivial⟩ ?_
            refine OD.still (wants_T rfl rfl rfl lk (by first | rfl | assumption)) rfl (still_bin rfl ot opd_const bin_eql) ?_
            refine OD.still (wants_plain rfl) rfl (still_pickT rfl ot (by first | rfl | assumption) ot) ?_
            refine OD.still (wants_plain rfl) rfl (still_as rfl ot) ?_
            refine OD.wk (Wk.as_ (n := 63) (l' := [(4, _)]) (S' := [⟨b10, 61, 8, [_, _, _, _, _, _, _, _]⟩]) rfl rfl ⟨lk, trivial⟩) ?_
            refine OD.nil ?_
            refine CD.ret ?_
            refine ⟨.inr rfl, _, [], List.nil_sublist _, ret_one Tryd.results12 (res_tmp (Nat.le_of_ble_eq_true rfl) lk), ?_⟩
            first | exact ⟨rfl, rfl⟩ | (refine ⟨vb ?_, rfl⟩; simp; done)
          · exact absurd hg58 (by simp at hg58)
        · exact absurd hg54 (by simp at hg54)
      · exact absurd hg49 (by simp at hg49)

set_option maxHeartbeats 4000000 in
set_option maxRecDepth 100000 in
theorem colsbad10_vp (hm : (1, marksC) ∈ G) (hw : (0, wordsC) ∈ G) (ht : (2, typesC) ∈ G) (a : Int) (a1 : -9223372036854775808 ≤ a) (a2 : a ≤ 9223372036854775807) (c : Int) (c1 : -9223372036854775808 ≤ c) (c2 : c ≤ 9223372036854775807) (hj : pickedF a 4 = 1) (hk : pickedF c 3 = 0) : VP Tryd.prog G 12 [.v (.int .i64 a), .v (.int .i64 c)] (.v (.bool true)) := by
  refine VC.body Tryd.func12 rfl Tryd.ntmps12 (Nat.le_of_ble_eq_true rfl) fun X0 w0 S00 => ?_
  have hmx : maxLen = 9223372036854775807 := rfl
  have hbad : colsF [⟨⟨#[105, 100]⟩, 2⟩, ⟨⟨#[110]⟩, 0⟩, ⟨⟨#[115]⟩, 3⟩, ⟨⟨#[98]⟩, 1⟩] = 2 := by simp [colsF, colsA, colF, nm_id, nm_n, nm_s, nm_b, nm_sel, str_list]
  have hsz : ∀ c ∈ ([⟨⟨#[105, 100]⟩, 2⟩, ⟨⟨#[110]⟩, 0⟩, ⟨⟨#[115]⟩, 3⟩, ⟨⟨#[98]⟩, 1⟩] : List ColL), c.n.size ≤ maxLen := cols_sz6 (fun c hc => by simp only [List.mem_cons, List.not_mem_nil, or_false] at hc; rcases hc with rfl | rfl | rfl | rfl <;> exact Nat.le_of_ble_eq_true rfl)
  have hkd := Kind_vp hm hw ht [⟨⟨#[105, 100]⟩, 2⟩, ⟨⟨#[110]⟩, 0⟩, ⟨⟨#[115]⟩, 3⟩, ⟨⟨#[98]⟩, 1⟩] (by decide) hsz (by rw [hbad]; decide) [(⟨1, noVl, ⟨#[]⟩⟩ : OpL)]
  have hcb := Cols_vp hm hw ht [⟨⟨#[105, 100]⟩, 2⟩, ⟨⟨#[110]⟩, 0⟩, ⟨⟨#[115]⟩, 3⟩, ⟨⟨#[98]⟩, 1⟩] (by decide) hsz
  rw [hbad] at hkd hcb
  have hc0 := Cols_vp hm hw ht [] (Nat.zero_le _) (fun c hc => by cases hc)
  rw [cols_none] at hc0
  have hcg := Cols_vp hm hw ht colsL (by decide) cols_sz
  rw [cols_ok] at hcg
  have hpa := picked_vp G a 4 a1 a2 (by decide)
  rw [hj] at hpa
  have hpc := picked_vp G c 3 c1 c2 (by decide)
  rw [hk] at hpc
  have hcn := hc0
  clear hc0
  refine CD.seq ?_
  refine CD.region ?_
  refine OD.still (wants_plain rfl) rfl (still_as rfl opd_const) ?_
  refine OD.wk (Wk.as_ (n := 63) (l' := [(0, _), (1, _)]) (S' := []) rfl rfl ⟨lk, lk, trivial⟩) ?_
  refine OD.nil ?_
  refine CD.seq ?_
  refine CD.region ?_
  refine OD.call (wants_plain rfl) rfl rfl rfl Tryd.call24 colsOf_vc trivial (perm_none _) ?_; rintro _ _ ⟨b10, rfl, rfl⟩
  refine OD.still (wants_plain rfl) rfl (still_as rfl ot) ?_
  refine OD.wk (Wk.as_ (n := 63) (l' := [(0, _), (1, _), (5, _)]) (S' := [⟨b10, 61, 8, [_, _, _, _, _, _, _, _]⟩]) rfl rfl ⟨lk, lk, lk, trivial⟩) ?_
  refine OD.nil ?_
  refine CD.seq ?_
  refine CD.region ?_
  refine OD.still (wants_plain rfl) rfl (still_mv rfl ot) ?_
  refine OD.callP (wants_plain rfl) rfl rfl rfl Tryd.call15 (hpa) ⟨ot, opd_const, trivial⟩ ?_
  refine OD.still (wants_plain rfl) rfl (still_as rfl ot) ?_
  refine OD.wk (Wk.as_ (n := 63) (l' := [(1, _), (5, _), (6, _)]) (S' := [⟨b10, 61, 8, [_, _, _, _, _, _, _, _]⟩]) rfl rfl ⟨lk, lk, lk, trivial⟩) ?_
  refine OD.nil ?_
  refine CD.seq ?_
  refine CD.region ?_
  refine OD.still (wants_plain rfl) rfl (still_as rfl opd_const) ?_
  refine OD.wk (Wk.as_ (n := 63) (l' := [(1, _), (5, _), (6, _), (7, _)]) (S' := [⟨b10, 61, 8, [_, _, _, _, _, _, _, _]⟩]) rfl rfl ⟨lk, lk, lk, lk, trivial⟩) ?_
  refine OD.nil ?_
  refine CD.seq ?_
  refine CD.seq ?_
  refine CD.region ?_
  refine OD.still (wants_plain rfl) rfl (still_mv rfl ot) ?_
  refine OD.callP (wants_plain rfl) rfl rfl rfl Tryd.call15 (hpc) ⟨ot, opd_const, trivial⟩ ?_
  refine OD.wk (Wk.as_ (n := 63) (l' := [(5, _), (6, _), (7, _), (14, _)]) (S' := [⟨b10, 61, 8, [_, _, _, _, _, _, _, _]⟩]) rfl rfl ⟨lk, lk, lk, lk, trivial⟩) ?_
  refine OD.nil ?_
  refine CD.block ?_
  refine CD.seq ?_
  refine CD.region ?_
  refine OD.still (wants_plain rfl) rfl (still_bin rfl ot opd_const bin_eql) ?_
  refine OD.still (wants_plain rfl) rfl (still_as rfl ot) ?_
  refine OD.wk (Wk.as_ (n := 63) (l' := [(5, _), (6, _), (7, _), (14, _), (19, _)]) (S' := [⟨b10, 61, 8, [_, _, _, _, _, _, _, _]⟩]) rfl rfl ⟨lk, lk, lk, lk, lk, trivial⟩) ?_
  refine OD.nil ?_
  refine CD.cond ot (fun hc0 => ?_) (fun hc0 => ?_)
  · have hc0' := hc0
    (try simp only [decide_eq_true_eq, decide_eq_false_iff_not, beq_iff_eq, bne_iff_ne, Bool.not_eq_true', Bool.not_eq_false', Bool.not_eq_true, Bool.not_eq_false, beq_eq_false_iff_ne, ne_eq, bne_eq_false_iff_eq, Bool.and_eq_true, Bool.or_eq_true, Bool.not_not, Bool.and_eq_false_iff, Bool.or_eq_false_iff, Int.not_lt, Int.not_le] at hc0')
    refine CD.region ?_
    refine OD.still (wants_plain rfl) rfl (still_mv rfl ot) ?_
    refine OD.still (wants_plain rfl) rfl (still_mv rfl ot) ?_
    refine OD.still (wants_plain rfl) rfl (still_r2 (mk := Op.indexAddr 56) rfl ot ot (by first | exact ix_list Tryd.runUnderlying56 Tryd.sizeOf61 rfl (by first | assumption | omega) | exact ix_list (j := Int.toNat _) Tryd.runUnderlying56 Tryd.sizeOf61 (Int.toNat_of_nonneg (by omega)).symm (by omega) | exact ix_row Tryd.runUnderlying56 Tryd.sizeOf61 rfl (by first | assumption | omega) | exact ix_row (j := Int.toNat _) Tryd.runUnderlying56 Tryd.sizeOf61 (Int.toNat_of_nonneg (by omega)).symm (by omega))) ?_
    refine OD.still (wants_plain rfl) rfl (still_r1 (mk := fun y => Op.fieldAddr 61 y 1) rfl ot (by first | exact fa_ptr (off := 1) Tryd.runUnderlying61 rfl Tryd.sizeOf3 rfl | exact fa_iptr (off := 1) Tryd.runUnderlying61 rfl Tryd.sizeOf3 rfl)) ?_
    refine OD.storeAt (k := 0) (cs' := [⟨⟨#[105, 100]⟩, 2⟩, ⟨⟨#[110]⟩, 0⟩, ⟨⟨#[115]⟩, 3⟩, ⟨⟨#[98]⟩, 1⟩].flatMap cC) (wants_plain rfl) rfl rfl ot rfl rfl opd_const rfl rfl Tryd.sizeOf3 rfl (Nat.le_of_ble_eq_true rfl) rfl ?_
    refine OD.wk (Wk.as_ (n := 63) (l' := [(5, _), (7, _)]) (S' := [⟨b10, 61, 8, [_, _, _, _, _, _, _, _]⟩]) rfl rfl ⟨lk, lk, trivial⟩) ?_
    refine OD.nil ?_
    refine CD.seq ?_
    refine CD.region ?_
    refine OD.still (wants_plain rfl) rfl (still_mv rfl ot) ?_
    refine OD.still (wants_plain rfl) rfl (still_bld (pl := [(0, _)]) (ds := [_, _, _, _, _]) rfl Tryd.zeroValue52 Tryd.runUnderlying52 places52_Pc7 ⟨rfl, opd_const, trivial⟩ rfl rfl) ?_
    refine OD.bldS (pl := [(0, _)]) (zvs := [.int .i64 0, .int .i64 0, .int .i64 0, .string ⟨#[]⟩, .string ⟨#[]⟩]) (ds := [_, _, _, _, _]) (wants_plain rfl) rfl rfl Tryd.zeroValue52 Tryd.runUnderlying48 Tryd.sizeOf52 rfl rfl (by kernel_rfl) ⟨rfl, ot, trivial⟩ rfl rfl (fun b41 => ?_)
    refine OD.perm (perm_q11 (S1 := [⟨b41, 52, 1 * 5, List.flatMap cO ([(⟨1, noVl, ⟨#[]⟩⟩ : OpL)])⟩]) (A := [_])) ?_
    refine OD.giveL (t := 41) (Sq := [⟨b41, 52, 1 * 5, List.flatMap cO ([(⟨1, noVl, ⟨#[]⟩⟩ : OpL)])⟩]) lk (ownL_row (g := cO) (sz := 5) (e := 52) (ls := [(⟨1, noVl, ⟨#[]⟩⟩ : OpL)]) (Nat.le_refl _) (show 1 ≤ maxLen by decide)) (fm_len cO_len _) (perm_r11 (A := [_])) ?_
    refine OD.look (wants_plain rfl) rfl rfl rfl Tryd.call25 (hkd) rfl ⟨⟨_, ot, (view_row (k := 0) (cs := [⟨⟨#[105, 100]⟩, 2⟩, ⟨⟨#[110]⟩, 0⟩, ⟨⟨#[115]⟩, 3⟩, ⟨⟨#[98]⟩, 1⟩].flatMap cC) rfl rfl rfl rfl (Nat.le_refl _) (show 4 ≤ maxLen by decide))⟩, ⟨_, ot, view_same⟩, trivial⟩ ?_
    refine OD.still (wants_plain rfl) rfl (still_mv rfl ot) ?_
    refine OD.still (wants_plain rfl) rfl (still_extract rfl ot rfl) ?_
    refine OD.still (wants_plain rfl) rfl (still_extract rfl ot rfl) ?_
    refine OD.still (wants_plain rfl) rfl (still_as rfl ot) ?_
    refine OD.still (wants_plain rfl) rfl (still_as rfl ot) ?_
    refine OD.wk (Wk.as_ (n := 63) (l' := [(5, _), (7, _), (9, _)]) (S' := [⟨b10, 61, 8, [_, _, _, _, _, _, _, _]⟩]) rfl rfl ⟨lk, lk, lk, trivial⟩) ?_
    refine OD.nil ?_
    refine CD.seq ?_
    refine CD.region ?_
    refine OD.still (wants_plain rfl) rfl (still_mv rfl ot) ?_
    refine OD.look (wants_plain rfl) rfl rfl rfl Tryd.call26 (hcb) rfl ⟨⟨_, ot, (view_row (k := 0) (cs := [⟨⟨#[105, 100]⟩, 2⟩, ⟨⟨#[110]⟩, 0⟩, ⟨⟨#[115]⟩, 3⟩, ⟨⟨#[98]⟩, 1⟩].flatMap cC) rfl rfl rfl rfl (Nat.le_refl _) (show 4 ≤ maxLen by decide))⟩, trivial⟩ ?_
    refine OD.still (wants_plain rfl) rfl (still_mv rfl ot) ?_
    refine OD.still (wants_plain rfl) rfl (still_bin rfl ot ot bin_eql) ?_
    refine OD.still (wants_plain rfl) rfl (still_mv rfl ot) ?_
    refine OD.split (t := 49) lk (fun hg49 => ?_) (fun hg49 => ?_)
    · have hg49' := hg49; (try simp only [decide_eq_true_eq, decide_eq_false_iff_not, beq_iff_eq, bne_iff_ne, Bool.not_eq_true', Bool.not_eq_false', Bool.not_eq_true, Bool.not_eq_false, beq_eq_false_iff_ne, ne_eq, bne_eq_false_iff_eq, Bool.and_eq_true, Bool.or_eq_true, Bool.not_not] at hg49')
      refine OD.still (wants_T rfl rfl rfl lk (by first | rfl | assumption)) rfl (still_mv rfl ot) ?_
      refine OD.still (wants_T rfl rfl rfl lk (by first | rfl | assumption)) rfl (still_mv rfl ot) ?_
      refine OD.still (wants_T rfl rfl rfl lk (by first | rfl | assumption)) rfl (still_bin rfl ot ot bin_eql) ?_
      refine OD.still (wants_plain rfl) rfl (still_pickT rfl ot (by first | rfl | assumption) ot) ?_
      refine OD.still (wants_plain rfl) rfl (still_mv rfl ot) ?_
      refine OD.split (t := 54) lk (fun hg54 => ?_) (fun hg54 => ?_)
      · have hg54' := hg54; (try simp only [decide_eq_true_eq, decide_eq_false_iff_not, beq_iff_eq, bne_iff_ne, Bool.not_eq_true', Bool.not_eq_false', Bool.not_eq_true, Bool.not_eq_false, beq_eq_false_iff_ne, ne_eq, bne_eq_false_iff_eq, Bool.and_eq_true, Bool.or_eq_true, Bool.not_not] at hg54')
        refine OD.look (wants_T rfl rfl rfl lk (by first | rfl | assumption)) rfl rfl rfl Tryd.call26 (hcn) rfl ⟨⟨_, opd_const, view_nil⟩, trivial⟩ ?_
        refine OD.still (wants_T rfl rfl rfl lk (by first | rfl | assumption)) rfl (still_bin rfl ot opd_const bin_eql) ?_
        refine OD.still (wants_plain rfl) rfl (still_pickT rfl ot (by first | rfl | assumption) ot) ?_
        refine OD.still (wants_plain rfl) rfl (still_mv rfl ot) ?_
        refine OD.split (t := 58) lk (fun hg58 => ?_) (fun hg58 => ?_)
        · have hg58' := hg58; (try simp only [decide_eq_true_eq, decide_eq_false_iff_not, beq_iff_eq, bne_iff_ne, Bool.not_eq_true', Bool.not_eq_false', Bool.not_eq_true, Bool.not_eq_false, beq_eq_false_iff_ne, ne_eq, bne_eq_false_iff_eq, Bool.and_eq_true, Bool.or_eq_true, Bool.not_not] at hg58')
          refine OD.callP (wants_T rfl rfl rfl lk (by first | rfl | assumption)) rfl rfl rfl Tryd.call24 (colsOf_vp) trivial ?_
          refine OD.callP (wants_T rfl rfl rfl lk (by first | rfl | assumption)) rfl rfl rfl Tryd.call26 (hcg) ⟨ot, trivial⟩ ?_
          refine OD.still (wants_T rfl rfl rfl lk (by first | rfl | assumption)) rfl (still_bin rfl ot opd_const bin_eql) ?_
          refine OD.still (wants_plain rfl) rfl (still_pickT rfl ot (by first | rfl | assumption) ot) ?_
          refine OD.still (wants_plain rfl) rfl (still_as rfl ot) ?_
          refine OD.wk (Wk.as_ (n := 63) (l' := [(4, _)]) (S' := [⟨b10, 61, 8, [_, _, _, _, _, _, _, _]⟩]) rfl rfl ⟨lk, trivial⟩) ?_
          refine OD.nil ?_
          refine CD.ret ?_
          refine ⟨.inr rfl, _, [], List.nil_sublist _, ret_one Tryd.results12 (res_tmp (Nat.le_of_ble_eq_true rfl) lk), ?_⟩
          first | exact ⟨rfl, rfl⟩ | (refine ⟨vb ?_, rfl⟩; simp; done)
        · exact absurd hg58 (by simp at hg58)
      · exact absurd hg54 (by simp at hg54)
    · exact absurd hg49 (by simp at hg49)
  · exact absurd hc0 (by simp at hc0)

set_option maxHeartbeats 4000000 in
set_option maxRecDepth 100000 in
theorem colsbad11_vp (hm : (1, marksC) ∈ G) (hw : (0, wordsC) ∈ G) (ht : (2, typesC) ∈ G) (a : Int) (a1 : -9223372036854775808 ≤ a) (a2 : a ≤ 9223372036854775807) (c : Int) (c1 : -9223372036854775808 ≤ c) (c2 : c ≤ 9223372036854775807) (hj : pickedF a 4 = 1) (hk : pickedF c 3 = 1) : VP Tryd.prog G 12 [.v (.int .i64 a), .v (.int .i64 c)] (.v (.bool true)) := by
  refine VC.body Tryd.func12 rfl Tryd.ntmps12 (Nat.le_of_ble_eq_true rfl) fun X0 w0 S00 => ?_
  have hmx : maxLen = 9223372036854775807 := rfl
  have hbad : colsF [⟨⟨#[105, 100]⟩, 2⟩, ⟨⟨#[115]⟩, 2⟩, ⟨⟨#[115]⟩, 3⟩, ⟨⟨#[98]⟩, 1⟩] = 9 := by simp [colsF, colsA, colF, nm_id, nm_n, nm_s, nm_b, nm_sel, str_list]
  have hsz : ∀ c ∈ ([⟨⟨#[105, 100]⟩, 2⟩, ⟨⟨#[115]⟩, 2⟩, ⟨⟨#[115]⟩, 3⟩, ⟨⟨#[98]⟩, 1⟩] : List ColL), c.n.size ≤ maxLen := cols_sz6 (fun c hc => by simp only [List.mem_cons, List.not_mem_nil, or_false] at hc; rcases hc with rfl | rfl | rfl | rfl <;> exact Nat.le_of_ble_eq_true rfl)
  have hkd := Kind_vp hm hw ht [⟨⟨#[105, 100]⟩, 2⟩, ⟨⟨#[115]⟩, 2⟩, ⟨⟨#[115]⟩, 3⟩, ⟨⟨#[98]⟩, 1⟩] (by decide) hsz (by rw [hbad]; decide) [(⟨1, noVl, ⟨#[]⟩⟩ : OpL)]
  have hcb := Cols_vp hm hw ht [⟨⟨#[105, 100]⟩, 2⟩, ⟨⟨#[115]⟩, 2⟩, ⟨⟨#[115]⟩, 3⟩, ⟨⟨#[98]⟩, 1⟩] (by decide) hsz
  rw [hbad] at hkd hcb
  have hc0 := Cols_vp hm hw ht [] (Nat.zero_le _) (fun c hc => by cases hc)
  rw [cols_none] at hc0
  have hcg := Cols_vp hm hw ht colsL (by decide) cols_sz
  rw [cols_ok] at hcg
  have hpa := picked_vp G a 4 a1 a2 (by decide)
  rw [hj] at hpa
  have hpc := picked_vp G c 3 c1 c2 (by decide)
  rw [hk] at hpc
  have hcn := hc0
  clear hc0
  refine CD.seq ?_
  refine CD.region ?_
  refine OD.still (wants_plain rfl) rfl (still_as rfl opd_const) ?_
  refine OD.wk (Wk.as_ (n := 63) (l' := [(0, _), (1, _)]) (S' := []) rfl rfl ⟨lk, lk, trivial⟩) ?_
  refine OD.nil ?_
  refine CD.seq ?_
  refine CD.region ?_
  refine OD.call (wants_plain rfl) rfl rfl rfl Tryd.call24 colsOf_vc trivial (perm_none _) ?_; rintro _ _ ⟨b10, rfl, rfl⟩
  refine OD.still (wants_plain rfl) rfl (still_as rfl ot) ?_
  refine OD.wk (Wk.as_ (n := 63) (l' := [(0, _), (1, _), (5, _)]) (S' := [⟨b10, 61, 8, [_, _, _, _, _, _, _, _]⟩]) rfl rfl ⟨lk, lk, lk, trivial⟩) ?_
  refine OD.nil ?_
  refine CD.seq ?_
  refine CD.region ?_
  refine OD.still (wants_plain rfl) rfl (still_mv rfl ot) ?_
  refine OD.callP (wants_plain rfl) rfl rfl rfl Tryd.call15 (hpa) ⟨ot, opd_const, trivial⟩ ?_
  refine OD.still (wants_plain rfl) rfl (still_as rfl ot) ?_
  refine OD.wk (Wk.as_ (n := 63) (l' := [(1, _), (5, _), (6, _)]) (S' := [⟨b10, 61, 8, [_, _, _, _, _, _, _, _]⟩]) rfl rfl ⟨lk, lk, lk, trivial⟩) ?_
  refine OD.nil ?_
  refine CD.seq ?_
  refine CD.region ?_
  refine OD.still (wants_plain rfl) rfl (still_as rfl opd_const) ?_
  refine OD.wk (Wk.as_ (n := 63) (l' := [(1, _), (5, _), (6, _), (7, _)]) (S' := [⟨b10, 61, 8, [_, _, _, _, _, _, _, _]⟩]) rfl rfl ⟨lk, lk, lk, lk, trivial⟩) ?_
  refine OD.nil ?_
  refine CD.seq ?_
  refine CD.seq ?_
  refine CD.region ?_
  refine OD.still (wants_plain rfl) rfl (still_mv rfl ot) ?_
  refine OD.callP (wants_plain rfl) rfl rfl rfl Tryd.call15 (hpc) ⟨ot, opd_const, trivial⟩ ?_
  refine OD.wk (Wk.as_ (n := 63) (l' := [(5, _), (6, _), (7, _), (14, _)]) (S' := [⟨b10, 61, 8, [_, _, _, _, _, _, _, _]⟩]) rfl rfl ⟨lk, lk, lk, lk, trivial⟩) ?_
  refine OD.nil ?_
  refine CD.block ?_
  refine CD.seq ?_
  refine CD.region ?_
  refine OD.still (wants_plain rfl) rfl (still_bin rfl ot opd_const bin_eql) ?_
  refine OD.still (wants_plain rfl) rfl (still_as rfl ot) ?_
  refine OD.wk (Wk.as_ (n := 63) (l' := [(5, _), (6, _), (7, _), (14, _), (19, _)]) (S' := [⟨b10, 61, 8, [_, _, _, _, _, _, _, _]⟩]) rfl rfl ⟨lk, lk, lk, lk, lk, trivial⟩) ?_
  refine OD.nil ?_
  refine CD.cond ot (fun hc0 => ?_) (fun hc0 => ?_)
  · exact absurd hc0 (by simp at hc0)
  · have hc0' := hc0
    (try simp only [decide_eq_true_eq, decide_eq_false_iff_not, beq_iff_eq, bne_iff_ne, Bool.not_eq_true', Bool.not_eq_false', Bool.not_eq_true, Bool.not_eq_false, beq_eq_false_iff_ne, ne_eq, bne_eq_false_iff_eq, Bool.and_eq_true, Bool.or_eq_true, Bool.not_not, Bool.and_eq_false_iff, Bool.or_eq_false_iff, Int.not_lt, Int.not_le] at hc0')
    refine CD.seq ?_
    refine CD.region ?_
    refine OD.still (wants_plain rfl) rfl (still_bin rfl ot opd_const bin_eql) ?_
    refine OD.still (wants_plain rfl) rfl (still_as rfl ot) ?_
    refine OD.wk (Wk.as_ (n := 63) (l' := [(5, _), (6, _), (25, _)]) (S' := [⟨b10, 61, 8, [_, _, _, _, _, _, _, _]⟩]) rfl rfl ⟨lk, lk, lk, trivial⟩) ?_
    refine OD.nil ?_
    refine CD.cond ot (fun hc1 => ?_) (fun hc1 => ?_)
    · have hc1' := hc1
      (try simp only [decide_eq_true_eq, decide_eq_false_iff_not, beq_iff_eq, bne_iff_ne, Bool.not_eq_true', Bool.not_eq_false', Bool.not_eq_true, Bool.not_eq_false, beq_eq_false_iff_ne, ne_eq, bne_eq_false_iff_eq, Bool.and_eq_true, Bool.or_eq_true, Bool.not_not, Bool.and_eq_false_iff, Bool.or_eq_false_iff, Int.not_lt, Int.not_le] at hc1')
      refine CD.seq ?_
      refine CD.region ?_
      refine OD.still (wants_plain rfl) rfl (still_mv rfl ot) ?_
      refine OD.still (wants_plain rfl) rfl (still_mv rfl ot) ?_
      refine OD.still (wants_plain rfl) rfl (still_mv rfl ot) ?_
      refine OD.still (wants_plain rfl) rfl (still_mv rfl ot) ?_
      refine OD.still (wants_plain rfl) rfl (still_bin rfl ot opd_const (bin_add (wrap_i64 (by omega) (by omega)))) ?_
      refine OD.still (wants_plain rfl) rfl (still_bin (r := .int .i64 2) rfl ot opd_const (bin_rem (show (4 : Int) ≠ 0 by decide))) ?_
      refine OD.still (wants_plain rfl) rfl (still_r2 (mk := Op.indexAddr 56) rfl ot ot (by first | exact ix_list Tryd.runUnderlying56 Tryd.sizeOf61 rfl (by first | assumption | omega) | exact ix_list (j := Int.toNat _) Tryd.runUnderlying56 Tryd.sizeOf61 (Int.toNat_of_nonneg (by omega)).symm (by omega) | exact ix_row Tryd.runUnderlying56 Tryd.sizeOf61 rfl (by first | assumption | omega) | exact ix_row (j := Int.toNat _) Tryd.runUnderlying56 Tryd.sizeOf61 (Int.toNat_of_nonneg (by omega)).symm (by omega))) ?_
      refine OD.still (wants_plain rfl) rfl (still_r1 (mk := fun y => Op.fieldAddr 61 y 0) rfl ot (by first | exact fa_ptr (off := 0) Tryd.runUnderlying61 rfl Tryd.sizeOf9 rfl | exact fa_iptr (off := 0) Tryd.runUnderlying61 rfl Tryd.sizeOf9 rfl)) ?_
      refine OD.still (wants_plain rfl) rfl (still_r1 (mk := Op.load 9) rfl ot (by first | exact ld_blk (k := 0) rfl rfl Tryd.isAgg9 rfl | exact ld_fm cC_len Tryd.isAgg9 (by first | assumption | omega) rfl | exact ld_fm0 cC_len Tryd.isAgg9 (by first | assumption | omega) rfl | exact ld_row (k := 0) cC_len rfl rfl rfl Tryd.isAgg9 (by first | assumption | omega) rfl | exact ld_row0 (k := 0) cC_len rfl rfl rfl Tryd.isAgg9 (by first | assumption | omega) rfl | exact ld_i Tryd.isAgg9 rfl)) ?_
      refine OD.still (wants_plain rfl) rfl (still_r2 (mk := Op.indexAddr 56) rfl ot ot (by first | exact ix_list Tryd.runUnderlying56 Tryd.sizeOf61 rfl (by first | assumption | omega) | exact ix_list (j := Int.toNat _) Tryd.runUnderlying56 Tryd.sizeOf61 (Int.toNat_of_nonneg (by omega)).symm (by omega) | exact ix_row Tryd.runUnderlying56 Tryd.sizeOf61 rfl (by first | assumption | omega) | exact ix_row (j := Int.toNat _) Tryd.runUnderlying56 Tryd.sizeOf61 (Int.toNat_of_nonneg (by omega)).symm (by omega))) ?_
      refine OD.still (wants_plain rfl) rfl (still_r1 (mk := fun y => Op.fieldAddr 61 y 0) rfl ot (by first | exact fa_ptr (off := 0) Tryd.runUnderlying61 rfl Tryd.sizeOf9 rfl | exact fa_iptr (off := 0) Tryd.runUnderlying61 rfl Tryd.sizeOf9 rfl)) ?_
      refine OD.storeAt (k := 0) (cs' := [⟨⟨#[105, 100]⟩, 2⟩, ⟨⟨#[115]⟩, 2⟩, ⟨⟨#[115]⟩, 3⟩, ⟨⟨#[98]⟩, 1⟩].flatMap cC) (wants_plain rfl) rfl rfl ot rfl rfl ot rfl rfl Tryd.sizeOf9 rfl (Nat.le_of_ble_eq_true rfl) rfl ?_
      refine OD.wk (Wk.as_ (n := 63) (l' := [(5, _)]) (S' := [⟨b10, 61, 8, [_, _, _, _, _, _, _, _]⟩]) rfl rfl ⟨lk, trivial⟩) ?_
      refine OD.nil ?_
      refine CD.region ?_
      refine OD.still (wants_plain rfl) rfl (still_as rfl opd_const) ?_
      refine OD.wk (Wk.as_ (n := 63) (l' := [(5, _), (7, _)]) (S' := [⟨b10, 61, 8, [_, _, _, _, _, _, _, _]⟩]) rfl rfl ⟨lk, lk, trivial⟩) ?_
      refine OD.nil ?_
      refine CD.seq ?_
      refine CD.region ?_
      refine OD.still (wants_plain rfl) rfl (still_mv rfl ot) ?_
      refine OD.still (wants_plain rfl) rfl (still_bld (pl := [(0, _)]) (ds := [_, _, _, _, _]) rfl Tryd.zeroValue52 Tryd.runUnderlying52 places52_Pc7 ⟨rfl, opd_const, trivial⟩ rfl rfl) ?_
      refine OD.bldS (pl := [(0, _)]) (zvs := [.int .i64 0, .int .i64 0, .int .i64 0, .string ⟨#[]⟩, .string ⟨#[]⟩]) (ds := [_, _, _, _, _]) (wants_plain rfl) rfl rfl Tryd.zeroValue52 Tryd.runUnderlying48 Tryd.sizeOf52 rfl rfl (by kernel_rfl) ⟨rfl, ot, trivial⟩ rfl rfl (fun b41 => ?_)
      refine OD.perm (perm_q11 (S1 := [⟨b41, 52, 1 * 5, List.flatMap cO ([(⟨1, noVl, ⟨#[]⟩⟩ : OpL)])⟩]) (A := [_])) ?_
      refine OD.giveL (t := 41) (Sq := [⟨b41, 52, 1 * 5, List.flatMap cO ([(⟨1, noVl, ⟨#[]⟩⟩ : OpL)])⟩]) lk (ownL_row (g := cO) (sz := 5) (e := 52) (ls := [(⟨1, noVl, ⟨#[]⟩⟩ : OpL)]) (Nat.le_refl _) (show 1 ≤ maxLen by decide)) (fm_len cO_len _) (perm_r11 (A := [_])) ?_
      refine OD.look (wants_plain rfl) rfl rfl rfl Tryd.call25 (hkd) rfl ⟨⟨_, ot, (view_row (k := 0) (cs := [⟨⟨#[105, 100]⟩, 2⟩, ⟨⟨#[115]⟩, 2⟩, ⟨⟨#[115]⟩, 3⟩, ⟨⟨#[98]⟩, 1⟩].flatMap cC) rfl rfl rfl rfl (Nat.le_refl _) (show 4 ≤ maxLen by decide))⟩, ⟨_, ot, view_same⟩, trivial⟩ ?_
      refine OD.still (wants_plain rfl) rfl (still_mv rfl ot) ?_
      refine OD.still (wants_plain rfl) rfl (still_extract rfl ot rfl) ?_
      refine OD.still (wants_plain rfl) rfl (still_extract rfl ot rfl) ?_
      refine OD.still (wants_plain rfl) rfl (still_as rfl ot) ?_
      refine OD.still (wants_plain rfl) rfl (still_as rfl ot) ?_
      refine OD.wk (Wk.as_ (n := 63) (l' := [(5, _), (7, _), (9, _)]) (S' := [⟨b10, 61, 8, [_, _, _, _, _, _, _, _]⟩]) rfl rfl ⟨lk, lk, lk, trivial⟩) ?_
      refine OD.nil ?_
      refine CD.seq ?_
      refine CD.region ?_
      refine OD.still (wants_plain rfl) rfl (still_mv rfl ot) ?_
      refine OD.look (wants_plain rfl) rfl rfl rfl Tryd.call26 (hcb) rfl ⟨⟨_, ot, (view_row (k := 0) (cs := [⟨⟨#[105, 100]⟩, 2⟩, ⟨⟨#[115]⟩, 2⟩, ⟨⟨#[115]⟩, 3⟩, ⟨⟨#[98]⟩, 1⟩].flatMap cC) rfl rfl rfl rfl (Nat.le_refl _) (show 4 ≤ maxLen by decide))⟩, trivial⟩ ?_
      refine OD.still (wants_plain rfl) rfl (still_mv rfl ot) ?_
      refine OD.still (wants_plain rfl) rfl (still_bin rfl ot ot bin_eql) ?_
      refine OD.still (wants_plain rfl) rfl (still_mv rfl ot) ?_
      refine OD.split (t := 49) lk (fun hg49 => ?_) (fun hg49 => ?_)
      · have hg49' := hg49; (try simp only [decide_eq_true_eq, decide_eq_false_iff_not, beq_iff_eq, bne_iff_ne, Bool.not_eq_true', Bool.not_eq_false', Bool.not_eq_true, Bool.not_eq_false, beq_eq_false_iff_ne, ne_eq, bne_eq_false_iff_eq, Bool.and_eq_true, Bool.or_eq_true, Bool.not_not] at hg49')
        refine OD.still (wants_T rfl rfl rfl lk (by first | rfl | assumption)) rfl (still_mv rfl ot) ?_
        refine OD.still (wants_T rfl rfl rfl lk (by first | rfl | assumption)) rfl (still_mv rfl ot) ?_
        refine OD.still (wants_T rfl rfl rfl lk (by first | rfl | assumption)) rfl (still_bin rfl ot ot bin_eql) ?_
        refine OD.still (wants_plain rfl) rfl (still_pickT rfl ot (by first | rfl | assumption) ot) ?_
        refine OD.still (wants_plain rfl) rfl (still_mv rfl ot) ?_
        refine OD.split (t := 54) lk (fun hg54 => ?_) (fun hg54 => ?_)
        · have hg54' := hg54; (try simp only [decide_eq_true_eq, decide_eq_false_iff_not, beq_iff_eq, bne_iff_ne, Bool.not_eq_true', Bool.not_eq_false', Bool.not_eq_true, Bool.not_eq_false, beq_eq_false_iff_ne, ne_eq, bne_eq_false_iff_eq, Bool.and_eq_true, Bool.or_eq_true, Bool.not_not] at hg54')
          refine OD.look (wants_T rfl rfl rfl lk (by first | rfl | assumption)) rfl rfl rfl Tryd.call26 (hcn) rfl ⟨⟨_, opd_const, view_nil⟩, trivial⟩ ?_
          refine OD.still (wants_T rfl rfl rfl lk (by first | rfl | assumption)) rfl (still_bin rfl ot opd_const bin_eql) ?_
          refine OD.still (wants_plain rfl) rfl (still_pickT rfl ot (by first | rfl | assumption) ot) ?_
          refine OD.still (wants_plain rfl) rfl (still_mv rfl ot) ?_
          refine OD.split (t := 58) lk (fun hg58 => ?_) (fun hg58 => ?_)
          · have hg58' := hg58; (try simp only [decide_eq_true_eq, decide_eq_false_iff_not, beq_iff_eq, bne_iff_ne, Bool.not_eq_true', Bool.not_eq_false', Bool.not_eq_true, Bool.not_eq_false, beq_eq_false_iff_ne, ne_eq, bne_eq_false_iff_eq, Bool.and_eq_true, Bool.or_eq_true, Bool.not_not] at hg58')
            refine OD.callP (wants_T rfl rfl rfl lk (by first | rfl | assumption)) rfl rfl rfl Tryd.call24 (colsOf_vp) trivial ?_
            refine OD.callP (wants_T rfl rfl rfl lk (by first | rfl | assumption)) rfl rfl rfl Tryd.call26 (hcg) ⟨ot, trivial⟩ ?_
            refine OD.still (wants_T rfl rfl rfl lk (by first | rfl | assumption)) rfl (still_bin rfl ot opd_const bin_eql) ?_
            refine OD.still (wants_plain rfl) rfl (still_pickT rfl ot (by first | rfl | assumption) ot) ?_
            refine OD.still (wants_plain rfl) rfl (still_as rfl ot) ?_
            refine OD.wk (Wk.as_ (n := 63) (l' := [(4, _)]) (S' := [⟨b10, 61, 8, [_, _, _, _, _, _, _, _]⟩]) rfl rfl ⟨lk, trivial⟩) ?_
            refine OD.nil ?_
            refine CD.ret ?_
            refine ⟨.inr rfl, _, [], List.nil_sublist _, ret_one Tryd.results12 (res_tmp (Nat.le_of_ble_eq_true rfl) lk), ?_⟩
            first | exact ⟨rfl, rfl⟩ | (refine ⟨vb ?_, rfl⟩; simp; done)
          · exact absurd hg58 (by simp at hg58)
        · exact absurd hg54 (by simp at hg54)
      · exact absurd hg49 (by simp at hg49)
    · exact absurd hc1 (by simp at hc1)

set_option maxHeartbeats 4000000 in
set_option maxRecDepth 100000 in
theorem colsbad12_vp (hm : (1, marksC) ∈ G) (hw : (0, wordsC) ∈ G) (ht : (2, typesC) ∈ G) (a : Int) (a1 : -9223372036854775808 ≤ a) (a2 : a ≤ 9223372036854775807) (c : Int) (c1 : -9223372036854775808 ≤ c) (c2 : c ≤ 9223372036854775807) (hj : pickedF a 4 = 1) (hk : pickedF c 3 = 2) : VP Tryd.prog G 12 [.v (.int .i64 a), .v (.int .i64 c)] (.v (.bool true)) := by
  refine VC.body Tryd.func12 rfl Tryd.ntmps12 (Nat.le_of_ble_eq_true rfl) fun X0 w0 S00 => ?_
  have hmx : maxLen = 9223372036854775807 := rfl
  have hbad : colsF [⟨⟨#[105, 100]⟩, 2⟩, ⟨⟨#[83, 69, 76, 69, 67, 84]⟩, 2⟩, ⟨⟨#[115]⟩, 3⟩, ⟨⟨#[98]⟩, 1⟩] = 6 := by simp [colsF, colsA, colF, nm_id, nm_n, nm_s, nm_b, nm_sel, str_list]
  have hsz : ∀ c ∈ ([⟨⟨#[105, 100]⟩, 2⟩, ⟨⟨#[83, 69, 76, 69, 67, 84]⟩, 2⟩, ⟨⟨#[115]⟩, 3⟩, ⟨⟨#[98]⟩, 1⟩] : List ColL), c.n.size ≤ maxLen := cols_sz6 (fun c hc => by simp only [List.mem_cons, List.not_mem_nil, or_false] at hc; rcases hc with rfl | rfl | rfl | rfl <;> exact Nat.le_of_ble_eq_true rfl)
  have hkd := Kind_vp hm hw ht [⟨⟨#[105, 100]⟩, 2⟩, ⟨⟨#[83, 69, 76, 69, 67, 84]⟩, 2⟩, ⟨⟨#[115]⟩, 3⟩, ⟨⟨#[98]⟩, 1⟩] (by decide) hsz (by rw [hbad]; decide) [(⟨1, noVl, ⟨#[]⟩⟩ : OpL)]
  have hcb := Cols_vp hm hw ht [⟨⟨#[105, 100]⟩, 2⟩, ⟨⟨#[83, 69, 76, 69, 67, 84]⟩, 2⟩, ⟨⟨#[115]⟩, 3⟩, ⟨⟨#[98]⟩, 1⟩] (by decide) hsz
  rw [hbad] at hkd hcb
  have hc0 := Cols_vp hm hw ht [] (Nat.zero_le _) (fun c hc => by cases hc)
  rw [cols_none] at hc0
  have hcg := Cols_vp hm hw ht colsL (by decide) cols_sz
  rw [cols_ok] at hcg
  have hpa := picked_vp G a 4 a1 a2 (by decide)
  rw [hj] at hpa
  have hpc := picked_vp G c 3 c1 c2 (by decide)
  rw [hk] at hpc
  have hcn := hc0
  clear hc0
  refine CD.seq ?_
  refine CD.region ?_
  refine OD.still (wants_plain rfl) rfl (still_as rfl opd_const) ?_
  refine OD.wk (Wk.as_ (n := 63) (l' := [(0, _), (1, _)]) (S' := []) rfl rfl ⟨lk, lk, trivial⟩) ?_
  refine OD.nil ?_
  refine CD.seq ?_
  refine CD.region ?_
  refine OD.call (wants_plain rfl) rfl rfl rfl Tryd.call24 colsOf_vc trivial (perm_none _) ?_; rintro _ _ ⟨b10, rfl, rfl⟩
  refine OD.still (wants_plain rfl) rfl (still_as rfl ot) ?_
  refine OD.wk (Wk.as_ (n := 63) (l' := [(0, _), (1, _), (5, _)]) (S' := [⟨b10, 61, 8, [_, _, _, _, _, _, _, _]⟩]) rfl rfl ⟨lk, lk, lk, trivial⟩) ?_
  refine OD.nil ?_
  refine CD.seq ?_
  refine CD.region ?_
  refine OD.still (wants_plain rfl) rfl (still_mv rfl ot) ?_
  refine OD.callP (wants_plain rfl) rfl rfl rfl Tryd.call15 (hpa) ⟨ot, opd_const, trivial⟩ ?_
  refine OD.still (wants_plain rfl) rfl (still_as rfl ot) ?_
  refine OD.wk (Wk.as_ (n := 63) (l' := [(1, _), (5, _), (6, _)]) (S' := [⟨b10, 61, 8, [_, _, _, _, _, _, _, _]⟩]) rfl rfl ⟨lk, lk, lk, trivial⟩) ?_
  refine OD.nil ?_
  refine CD.seq ?_
  refine CD.region ?_
  refine OD.still (wants_plain rfl) rfl (still_as rfl opd_const) ?_
  refine OD.wk (Wk.as_ (n := 63) (l' := [(1, _), (5, _), (6, _), (7, _)]) (S' := [⟨b10, 61, 8, [_, _, _, _, _, _, _, _]⟩]) rfl rfl ⟨lk, lk, lk, lk, trivial⟩) ?_
  refine OD.nil ?_
  refine CD.seq ?_
  refine CD.seq ?_
  refine CD.region ?_
  refine OD.still (wants_plain rfl) rfl (still_mv rfl ot) ?_
  refine OD.callP (wants_plain rfl) rfl rfl rfl Tryd.call15 (hpc) ⟨ot, opd_const, trivial⟩ ?_
  refine OD.wk (Wk.as_ (n := 63) (l' := [(5, _), (6, _), (7, _), (14, _)]) (S' := [⟨b10, 61, 8, [_, _, _, _, _, _, _, _]⟩]) rfl rfl ⟨lk, lk, lk, lk, trivial⟩) ?_
  refine OD.nil ?_
  refine CD.block ?_
  refine CD.seq ?_
  refine CD.region ?_
  refine OD.still (wants_plain rfl) rfl (still_bin rfl ot opd_const bin_eql) ?_
  refine OD.still (wants_plain rfl) rfl (still_as rfl ot) ?_
  refine OD.wk (Wk.as_ (n := 63) (l' := [(5, _), (6, _), (7, _), (14, _), (19, _)]) (S' := [⟨b10, 61, 8, [_, _, _, _, _, _, _, _]⟩]) rfl rfl ⟨lk, lk, lk, lk, lk, trivial⟩) ?_
  refine OD.nil ?_
  refine CD.cond ot (fun hc0 => ?_) (fun hc0 => ?_)
  · exact absurd hc0 (by simp at hc0)
  · have hc0' := hc0
    (try simp only [decide_eq_true_eq, decide_eq_false_iff_not, beq_iff_eq, bne_iff_ne, Bool.not_eq_true', Bool.not_eq_false', Bool.not_eq_true, Bool.not_eq_false, beq_eq_false_iff_ne, ne_eq, bne_eq_false_iff_eq, Bool.and_eq_true, Bool.or_eq_true, Bool.not_not, Bool.and_eq_false_iff, Bool.or_eq_false_iff, Int.not_lt, Int.not_le] at hc0')
    refine CD.seq ?_
    refine CD.region ?_
    refine OD.still (wants_plain rfl) rfl (still_bin rfl ot opd_const bin_eql) ?_
    refine OD.still (wants_plain rfl) rfl (still_as rfl ot) ?_
    refine OD.wk (Wk.as_ (n := 63) (l' := [(5, _), (6, _), (25, _)]) (S' := [⟨b10, 61, 8, [_, _, _, _, _, _, _, _]⟩]) rfl rfl ⟨lk, lk, lk, trivial⟩) ?_
    refine OD.nil ?_
    refine CD.cond ot (fun hc1 => ?_) (fun hc1 => ?_)
    · exact absurd hc1 (by simp at hc1)
    · have hc1' := hc1
      (try simp only [decide_eq_true_eq, decide_eq_false_iff_not, beq_iff_eq, bne_iff_ne, Bool.not_eq_true', Bool.not_eq_false', Bool.not_eq_true, Bool.not_eq_false, beq_eq_false_iff_ne, ne_eq, bne_eq_false_iff_eq, Bool.and_eq_true, Bool.or_eq_true, Bool.not_not, Bool.and_eq_false_iff, Bool.or_eq_false_iff, Int.not_lt, Int.not_le] at hc1')
      refine CD.seq ?_
      refine CD.region ?_
      refine OD.still (wants_plain rfl) rfl (still_mv rfl ot) ?_
      refine OD.still (wants_plain rfl) rfl (still_mv rfl ot) ?_
      refine OD.still (wants_plain rfl) rfl (still_r2 (mk := Op.indexAddr 56) rfl ot ot (by first | exact ix_list Tryd.runUnderlying56 Tryd.sizeOf61 rfl (by first | assumption | omega) | exact ix_list (j := Int.toNat _) Tryd.runUnderlying56 Tryd.sizeOf61 (Int.toNat_of_nonneg (by omega)).symm (by omega) | exact ix_row Tryd.runUnderlying56 Tryd.sizeOf61 rfl (by first | assumption | omega) | exact ix_row (j := Int.toNat _) Tryd.runUnderlying56 Tryd.sizeOf61 (Int.toNat_of_nonneg (by omega)).symm (by omega))) ?_
      refine OD.still (wants_plain rfl) rfl (still_r1 (mk := fun y => Op.fieldAddr 61 y 0) rfl ot (by first | exact fa_ptr (off := 0) Tryd.runUnderlying61 rfl Tryd.sizeOf9 rfl | exact fa_iptr (off := 0) Tryd.runUnderlying61 rfl Tryd.sizeOf9 rfl)) ?_
      refine OD.storeAt (k := 0) (cs' := [⟨⟨#[105, 100]⟩, 2⟩, ⟨⟨#[83, 69, 76, 69, 67, 84]⟩, 2⟩, ⟨⟨#[115]⟩, 3⟩, ⟨⟨#[98]⟩, 1⟩].flatMap cC) (wants_plain rfl) rfl rfl ot rfl rfl opd_const rfl rfl Tryd.sizeOf9 rfl (Nat.le_of_ble_eq_true rfl) rfl ?_
      refine OD.wk (Wk.as_ (n := 63) (l' := [(5, _)]) (S' := [⟨b10, 61, 8, [_, _, _, _, _, _, _, _]⟩]) rfl rfl ⟨lk, trivial⟩) ?_
      refine OD.nil ?_
      refine CD.region ?_
      refine OD.still (wants_plain rfl) rfl (still_as rfl opd_const) ?_
      refine OD.wk (Wk.as_ (n := 63) (l' := [(5, _), (7, _)]) (S' := [⟨b10, 61, 8, [_, _, _, _, _, _, _, _]⟩]) rfl rfl ⟨lk, lk, trivial⟩) ?_
      refine OD.nil ?_
      refine CD.seq ?_
      refine CD.region ?_
      refine OD.still (wants_plain rfl) rfl (still_mv rfl ot) ?_
      refine OD.still (wants_plain rfl) rfl (still_bld (pl := [(0, _)]) (ds := [_, _, _, _, _]) rfl Tryd.zeroValue52 Tryd.runUnderlying52 places52_Pc7 ⟨rfl, opd_const, trivial⟩ rfl rfl) ?_
      refine OD.bldS (pl := [(0, _)]) (zvs := [.int .i64 0, .int .i64 0, .int .i64 0, .string ⟨#[]⟩, .string ⟨#[]⟩]) (ds := [_, _, _, _, _]) (wants_plain rfl) rfl rfl Tryd.zeroValue52 Tryd.runUnderlying48 Tryd.sizeOf52 rfl rfl (by kernel_rfl) ⟨rfl, ot, trivial⟩ rfl rfl (fun b41 => ?_)
      refine OD.perm (perm_q11 (S1 := [⟨b41, 52, 1 * 5, List.flatMap cO ([(⟨1, noVl, ⟨#[]⟩⟩ : OpL)])⟩]) (A := [_])) ?_
      refine OD.giveL (t := 41) (Sq := [⟨b41, 52, 1 * 5, List.flatMap cO ([(⟨1, noVl, ⟨#[]⟩⟩ : OpL)])⟩]) lk (ownL_row (g := cO) (sz := 5) (e := 52) (ls := [(⟨1, noVl, ⟨#[]⟩⟩ : OpL)]) (Nat.le_refl _) (show 1 ≤ maxLen by decide)) (fm_len cO_len _) (perm_r11 (A := [_])) ?_
      refine OD.look (wants_plain rfl) rfl rfl rfl Tryd.call25 (hkd) rfl ⟨⟨_, ot, (view_row (k := 0) (cs := [⟨⟨#[105, 100]⟩, 2⟩, ⟨⟨#[83, 69, 76, 69, 67, 84]⟩, 2⟩, ⟨⟨#[115]⟩, 3⟩, ⟨⟨#[98]⟩, 1⟩].flatMap cC) rfl rfl rfl rfl (Nat.le_refl _) (show 4 ≤ maxLen by decide))⟩, ⟨_, ot, view_same⟩, trivial⟩ ?_
      refine OD.still (wants_plain rfl) rfl (still_mv rfl ot) ?_
      refine OD.still (wants_plain rfl) rfl (still_extract rfl ot rfl) ?_
      refine OD.still (wants_plain rfl) rfl (still_extract rfl ot rfl) ?_
      refine OD.still (wants_plain rfl) rfl (still_as rfl ot) ?_
      refine OD.still (wants_plain rfl) rfl (still_as rfl ot) ?_
      refine OD.wk (Wk.as_ (n := 63) (l' := [(5, _), (7, _), (9, _)]) (S' := [⟨b10, 61, 8, [_, _, _, _, _, _, _, _]⟩]) rfl rfl ⟨lk, lk, lk, trivial⟩) ?_
      refine OD.nil ?_
      refine CD.seq ?_
      refine CD.region ?_
      refine OD.still (wants_plain rfl) rfl (still_mv rfl ot) ?_
      refine OD.look (wants_plain rfl) rfl rfl rfl Tryd.call26 (hcb) rfl ⟨⟨_, ot, (view_row (k := 0) (cs := [⟨⟨#[105, 100]⟩, 2⟩, ⟨⟨#[83, 69, 76, 69, 67, 84]⟩, 2⟩, ⟨⟨#[115]⟩, 3⟩, ⟨⟨#[98]⟩, 1⟩].flatMap cC) rfl rfl rfl rfl (Nat.le_refl _) (show 4 ≤ maxLen by decide))⟩, trivial⟩ ?_
      refine OD.still (wants_plain rfl) rfl (still_mv rfl ot) ?_
      refine OD.still (wants_plain rfl) rfl (still_bin rfl ot ot bin_eql) ?_
      refine OD.still (wants_plain rfl) rfl (still_mv rfl ot) ?_
      refine OD.split (t := 49) lk (fun hg49 => ?_) (fun hg49 => ?_)
      · have hg49' := hg49; (try simp only [decide_eq_true_eq, decide_eq_false_iff_not, beq_iff_eq, bne_iff_ne, Bool.not_eq_true', Bool.not_eq_false', Bool.not_eq_true, Bool.not_eq_false, beq_eq_false_iff_ne, ne_eq, bne_eq_false_iff_eq, Bool.and_eq_true, Bool.or_eq_true, Bool.not_not] at hg49')
        refine OD.still (wants_T rfl rfl rfl lk (by first | rfl | assumption)) rfl (still_mv rfl ot) ?_
        refine OD.still (wants_T rfl rfl rfl lk (by first | rfl | assumption)) rfl (still_mv rfl ot) ?_
        refine OD.still (wants_T rfl rfl rfl lk (by first | rfl | assumption)) rfl (still_bin rfl ot ot bin_eql) ?_
        refine OD.still (wants_plain rfl) rfl (still_pickT rfl ot (by first | rfl | assumption) ot) ?_
        refine OD.still (wants_plain rfl) rfl (still_mv rfl ot) ?_
        refine OD.split (t := 54) lk (fun hg54 => ?_) (fun hg54 => ?_)
        · have hg54' := hg54; (try simp only [decide_eq_true_eq, decide_eq_false_iff_not, beq_iff_eq, bne_iff_ne, Bool.not_eq_true', Bool.not_eq_false', Bool.not_eq_true, Bool.not_eq_false, beq_eq_false_iff_ne, ne_eq, bne_eq_false_iff_eq, Bool.and_eq_true, Bool.or_eq_true, Bool.not_not] at hg54')
          refine OD.look (wants_T rfl rfl rfl lk (by first | rfl | assumption)) rfl rfl rfl Tryd.call26 (hcn) rfl ⟨⟨_, opd_const, view_nil⟩, trivial⟩ ?_
          refine OD.still (wants_T rfl rfl rfl lk (by first | rfl | assumption)) rfl (still_bin rfl ot opd_const bin_eql) ?_
          refine OD.still (wants_plain rfl) rfl (still_pickT rfl ot (by first | rfl | assumption) ot) ?_
          refine OD.still (wants_plain rfl) rfl (still_mv rfl ot) ?_
          refine OD.split (t := 58) lk (fun hg58 => ?_) (fun hg58 => ?_)
          · have hg58' := hg58; (try simp only [decide_eq_true_eq, decide_eq_false_iff_not, beq_iff_eq, bne_iff_ne, Bool.not_eq_true', Bool.not_eq_false', Bool.not_eq_true, Bool.not_eq_false, beq_eq_false_iff_ne, ne_eq, bne_eq_false_iff_eq, Bool.and_eq_true, Bool.or_eq_true, Bool.not_not] at hg58')
            refine OD.callP (wants_T rfl rfl rfl lk (by first | rfl | assumption)) rfl rfl rfl Tryd.call24 (colsOf_vp) trivial ?_
            refine OD.callP (wants_T rfl rfl rfl lk (by first | rfl | assumption)) rfl rfl rfl Tryd.call26 (hcg) ⟨ot, trivial⟩ ?_
            refine OD.still (wants_T rfl rfl rfl lk (by first | rfl | assumption)) rfl (still_bin rfl ot opd_const bin_eql) ?_
            refine OD.still (wants_plain rfl) rfl (still_pickT rfl ot (by first | rfl | assumption) ot) ?_
            refine OD.still (wants_plain rfl) rfl (still_as rfl ot) ?_
            refine OD.wk (Wk.as_ (n := 63) (l' := [(4, _)]) (S' := [⟨b10, 61, 8, [_, _, _, _, _, _, _, _]⟩]) rfl rfl ⟨lk, trivial⟩) ?_
            refine OD.nil ?_
            refine CD.ret ?_
            refine ⟨.inr rfl, _, [], List.nil_sublist _, ret_one Tryd.results12 (res_tmp (Nat.le_of_ble_eq_true rfl) lk), ?_⟩
            first | exact ⟨rfl, rfl⟩ | (refine ⟨vb ?_, rfl⟩; simp; done)
          · exact absurd hg58 (by simp at hg58)
        · exact absurd hg54 (by simp at hg54)
      · exact absurd hg49 (by simp at hg49)

set_option maxHeartbeats 4000000 in
set_option maxRecDepth 100000 in
theorem colsbad20_vp (hm : (1, marksC) ∈ G) (hw : (0, wordsC) ∈ G) (ht : (2, typesC) ∈ G) (a : Int) (a1 : -9223372036854775808 ≤ a) (a2 : a ≤ 9223372036854775807) (c : Int) (c1 : -9223372036854775808 ≤ c) (c2 : c ≤ 9223372036854775807) (hj : pickedF a 4 = 2) (hk : pickedF c 3 = 0) : VP Tryd.prog G 12 [.v (.int .i64 a), .v (.int .i64 c)] (.v (.bool true)) := by
  refine VC.body Tryd.func12 rfl Tryd.ntmps12 (Nat.le_of_ble_eq_true rfl) fun X0 w0 S00 => ?_
  have hmx : maxLen = 9223372036854775807 := rfl
  have hbad : colsF [⟨⟨#[105, 100]⟩, 2⟩, ⟨⟨#[110]⟩, 2⟩, ⟨⟨#[115]⟩, 0⟩, ⟨⟨#[98]⟩, 1⟩] = 2 := by simp [colsF, colsA, colF, nm_id, nm_n, nm_s, nm_b, nm_sel, str_list]
  have hsz : ∀ c ∈ ([⟨⟨#[105, 100]⟩, 2⟩, ⟨⟨#[110]⟩, 2⟩, ⟨⟨#[115]⟩, 0⟩, ⟨⟨#[98]⟩, 1⟩] : List ColL), c.n.size ≤ maxLen := cols_sz6 (fun c hc => by simp only [List.mem_cons, List.not_mem_nil, or_false] at hc; rcases hc with rfl | rfl | rfl | rfl <;> exact Nat.le_of_ble_eq_true rfl)
  have hkd := Kind_vp hm hw ht [⟨⟨#[105, 100]⟩, 2⟩, ⟨⟨#[110]⟩, 2⟩, ⟨⟨#[115]⟩, 0⟩, ⟨⟨#[98]⟩, 1⟩] (by decide) hsz (by rw [hbad]; decide) [(⟨1, noVl, ⟨#[]⟩⟩ : OpL)]
  have hcb := Cols_vp hm hw ht [⟨⟨#[105, 100]⟩, 2⟩, ⟨⟨#[110]⟩, 2⟩, ⟨⟨#[115]⟩, 0⟩, ⟨⟨#[98]⟩, 1⟩] (by decide) hsz
  rw [hbad] at hkd hcb
  have hc0 := Cols_vp hm hw ht [] (Nat.zero_le _) (fun c hc => by cases hc)
  rw [cols_none] at hc0
  have hcg := Cols_vp hm hw ht colsL (by decide) cols_sz
  rw [cols_ok] at hcg
  have hpa := picked_vp G a 4 a1 a2 (by decide)
  rw [hj] at hpa
  have hpc := picked_vp G c 3 c1 c2 (by decide)
  rw [hk] at hpc
  have hcn := hc0
  clear hc0
  refine CD.seq ?_
  refine CD.region ?_
  refine OD.still (wants_plain rfl) rfl (still_as rfl opd_const) ?_
  refine OD.wk (Wk.as_ (n := 63) (l' := [(0, _), (1, _)]) (S' := []) rfl rfl ⟨lk, lk, trivial⟩) ?_
  refine OD.nil ?_
  refine CD.seq ?_
  refine CD.region ?_
  refine OD.call (wants_plain rfl) rfl rfl rfl Tryd.call24 colsOf_vc trivial (perm_none _) ?_; rintro _ _ ⟨b10, rfl, rfl⟩
  refine OD.still (wants_plain rfl) rfl (still_as rfl ot) ?_
  refine OD.wk (Wk.as_ (n := 63) (l' := [(0, _), (1, _), (5, _)]) (S' := [⟨b10, 61, 8, [_, _, _, _, _, _, _, _]⟩]) rfl rfl ⟨lk, lk, lk, trivial⟩) ?_
  refine OD.nil ?_
  refine CD.seq ?_
  refine CD.region ?_
  refine OD.still (wants_plain rfl) rfl (still_mv rfl ot) ?_
  refine OD.callP (wants_plain rfl) rfl rfl rfl Tryd.call15 (hpa) ⟨ot, opd_const, trivial⟩ ?_
  refine OD.still (wants_plain rfl) rfl (still_as rfl ot) ?_
  refine OD.wk (Wk.as_ (n := 63) (l' := [(1, _), (5, _), (6, _)]) (S' := [⟨b10, 61, 8, [_, _, _, _, _, _, _, _]⟩]) rfl rfl ⟨lk, lk, lk, trivial⟩) ?_
  refine OD.nil ?_
  refine CD.seq ?_
  refine CD.region ?_
  refine OD.still (wants_plain rfl) rfl (still_as rfl opd_const) ?_
  refine OD.wk (Wk.as_ (n := 63) (l' := [(1, _), (5, _), (6, _), (7, _)]) (S' := [⟨b10, 61, 8, [_, _, _, _, _, _, _, _]⟩]) rfl rfl ⟨lk, lk, lk, lk, trivial⟩) ?_
  refine OD.nil ?_
  refine CD.seq ?_
  refine CD.seq ?_
  refine CD.region ?_
  refine OD.still (wants_plain rfl) rfl (still_mv rfl ot) ?_
  refine OD.callP (wants_plain rfl) rfl rfl rfl Tryd.call15 (hpc) ⟨ot, opd_const, trivial⟩ ?_
  refine OD.wk (Wk.as_ (n := 63) (l' := [(5, _), (6, _), (7, _), (14, _)]) (S' := [⟨b10, 61, 8, [_, _, _, _, _, _, _, _]⟩]) rfl rfl ⟨lk, lk, lk, lk, trivial⟩) ?_
  refine OD.nil ?_
  refine CD.block ?_
  refine CD.seq ?_
  refine CD.region ?_
  refine OD.still (wants_plain rfl) rfl (still_bin rfl ot opd_const bin_eql) ?_
  refine OD.still (wants_plain rfl) rfl (still_as rfl ot) ?_
  refine OD.wk (Wk.as_ (n := 63) (l' := [(5, _), (6, _), (7, _), (14, _), (19, _)]) (S' := [⟨b10, 61, 8, [_, _, _, _, _, _, _, _]⟩]) rfl rfl ⟨lk, lk, lk, lk, lk, trivial⟩) ?_
  refine OD.nil ?_
  refine CD.cond ot (fun hc0 => ?_) (fun hc0 => ?_)
  · have hc0' := hc0
    (try simp only [decide_eq_true_eq, decide_eq_false_iff_not, beq_iff_eq, bne_iff_ne, Bool.not_eq_true', Bool.not_eq_false', Bool.not_eq_true, Bool.not_eq_false, beq_eq_false_iff_ne, ne_eq, bne_eq_false_iff_eq, Bool.and_eq_true, Bool.or_eq_true, Bool.not_not, Bool.and_eq_false_iff, Bool.or_eq_false_iff, Int.not_lt, Int.not_le] at hc0')
    refine CD.region ?_
    refine OD.still (wants_plain rfl) rfl (still_mv rfl ot) ?_
    refine OD.still (wants_plain rfl) rfl (still_mv rfl ot) ?_
    refine OD.still (wants_plain rfl) rfl (still_r2 (mk := Op.indexAddr 56) rfl ot ot (by first | exact ix_list Tryd.runUnderlying56 Tryd.sizeOf61 rfl (by first | assumption | omega) | exact ix_list (j := Int.toNat _) Tryd.runUnderlying56 Tryd.sizeOf61 (Int.toNat_of_nonneg (by omega)).symm (by omega) | exact ix_row Tryd.runUnderlying56 Tryd.sizeOf61 rfl (by first | assumption | omega) | exact ix_row (j := Int.toNat _) Tryd.runUnderlying56 Tryd.sizeOf61 (Int.toNat_of_nonneg (by omega)).symm (by omega))) ?_
    refine OD.still (wants_plain rfl) rfl (still_r1 (mk := fun y => Op.fieldAddr 61 y 1) rfl ot (by first | exact fa_ptr (off := 1) Tryd.runUnderlying61 rfl Tryd.sizeOf3 rfl | exact fa_iptr (off := 1) Tryd.runUnderlying61 rfl Tryd.sizeOf3 rfl)) ?_
    refine OD.storeAt (k := 0) (cs' := [⟨⟨#[105, 100]⟩, 2⟩, ⟨⟨#[110]⟩, 2⟩, ⟨⟨#[115]⟩, 0⟩, ⟨⟨#[98]⟩, 1⟩].flatMap cC) (wants_plain rfl) rfl rfl ot rfl rfl opd_const rfl rfl Tryd.sizeOf3 rfl (Nat.le_of_ble_eq_true rfl) rfl ?_
    refine OD.wk (Wk.as_ (n := 63) (l' := [(5, _), (7, _)]) (S' := [⟨b10, 61, 8, [_, _, _, _, _, _, _, _]⟩]) rfl rfl ⟨lk, lk, trivial⟩) ?_
    refine OD.nil ?_
    refine CD.seq ?_
    refine CD.region ?_
    refine OD.still (wants_plain rfl) rfl (still_mv rfl ot) ?_
    refine OD.still (wants_plain rfl) rfl (still_bld (pl := [(0, _)]) (ds := [_, _, _, _, _]) rfl Tryd.zeroValue52 Tryd.runUnderlying52 places52_Pc7 ⟨rfl, opd_const, trivial⟩ rfl rfl) ?_
    refine OD.bldS (pl := [(0, _)]) (zvs := [.int .i64 0, .int .i64 0, .int .i64 0, .string ⟨#[]⟩, .string ⟨#[]⟩]) (ds := [_, _, _, _, _]) (wants_plain rfl) rfl rfl Tryd.zeroValue52 Tryd.runUnderlying48 Tryd.sizeOf52 rfl rfl (by kernel_rfl) ⟨rfl, ot, trivial⟩ rfl rfl (fun b41 => ?_)
    refine OD.perm (perm_q11 (S1 := [⟨b41, 52, 1 * 5, List.flatMap cO ([(⟨1, noVl, ⟨#[]⟩⟩ : OpL)])⟩]) (A := [_])) ?_
    refine OD.giveL (t := 41) (Sq := [⟨b41, 52, 1 * 5, List.flatMap cO ([(⟨1, noVl, ⟨#[]⟩⟩ : OpL)])⟩]) lk (ownL_row (g := cO) (sz := 5) (e := 52) (ls := [(⟨1, noVl, ⟨#[]⟩⟩ : OpL)]) (Nat.le_refl _) (show 1 ≤ maxLen by decide)) (fm_len cO_len _) (perm_r11 (A := [_])) ?_
    refine OD.look (wants_plain rfl) rfl rfl rfl Tryd.call25 (hkd) rfl ⟨⟨_, ot, (view_row (k := 0) (cs := [⟨⟨#[105, 100]⟩, 2⟩, ⟨⟨#[110]⟩, 2⟩, ⟨⟨#[115]⟩, 0⟩, ⟨⟨#[98]⟩, 1⟩].flatMap cC) rfl rfl rfl rfl (Nat.le_refl _) (show 4 ≤ maxLen by decide))⟩, ⟨_, ot, view_same⟩, trivial⟩ ?_
    refine OD.still (wants_plain rfl) rfl (still_mv rfl ot) ?_
    refine OD.still (wants_plain rfl) rfl (still_extract rfl ot rfl) ?_
    refine OD.still (wants_plain rfl) rfl (still_extract rfl ot rfl) ?_
    refine OD.still (wants_plain rfl) rfl (still_as rfl ot) ?_
    refine OD.still (wants_plain rfl) rfl (still_as rfl ot) ?_
    refine OD.wk (Wk.as_ (n := 63) (l' := [(5, _), (7, _), (9, _)]) (S' := [⟨b10, 61, 8, [_, _, _, _, _, _, _, _]⟩]) rfl rfl ⟨lk, lk, lk, trivial⟩) ?_
    refine OD.nil ?_
    refine CD.seq ?_
    refine CD.region ?_
    refine OD.still (wants_plain rfl) rfl (still_mv rfl ot) ?_
    refine OD.look (wants_plain rfl) rfl rfl rfl Tryd.call26 (hcb) rfl ⟨⟨_, ot, (view_row (k := 0) (cs := [⟨⟨#[105, 100]⟩, 2⟩, ⟨⟨#[110]⟩, 2⟩, ⟨⟨#[115]⟩, 0⟩, ⟨⟨#[98]⟩, 1⟩].flatMap cC) rfl rfl rfl rfl (Nat.le_refl _) (show 4 ≤ maxLen by decide))⟩, trivial⟩ ?_
    refine OD.still (wants_plain rfl) rfl (still_mv rfl ot) ?_
    refine OD.still (wants_plain rfl) rfl (still_bin rfl ot ot bin_eql) ?_
    refine OD.still (wants_plain rfl) rfl (still_mv rfl ot) ?_
    refine OD.split (t := 49) lk (fun hg49 => ?_) (fun hg49 => ?_)
    · have hg49' := hg49; (try simp only [decide_eq_true_eq, decide_eq_false_iff_not, beq_iff_eq, bne_iff_ne, Bool.not_eq_true', Bool.not_eq_false', Bool.not_eq_true, Bool.not_eq_false, beq_eq_false_iff_ne, ne_eq, bne_eq_false_iff_eq, Bool.and_eq_true, Bool.or_eq_true, Bool.not_not] at hg49')
      refine OD.still (wants_T rfl rfl rfl lk (by first | rfl | assumption)) rfl (still_mv rfl ot) ?_
      refine OD.still (wants_T rfl rfl rfl lk (by first | rfl | assumption)) rfl (still_mv rfl ot) ?_
      refine OD.still (wants_T rfl rfl rfl lk (by first | rfl | assumption)) rfl (still_bin rfl ot ot bin_eql) ?_
      refine OD.still (wants_plain rfl) rfl (still_pickT rfl ot (by first | rfl | assumption) ot) ?_
      refine OD.still (wants_plain rfl) rfl (still_mv rfl ot) ?_
      refine OD.split (t := 54) lk (fun hg54 => ?_) (fun hg54 => ?_)
      · have hg54' := hg54; (try simp only [decide_eq_true_eq, decide_eq_false_iff_not, beq_iff_eq, bne_iff_ne, Bool.not_eq_true', Bool.not_eq_false', Bool.not_eq_true, Bool.not_eq_false, beq_eq_false_iff_ne, ne_eq, bne_eq_false_iff_eq, Bool.and_eq_true, Bool.or_eq_true, Bool.not_not] at hg54')
        refine OD.look (wants_T rfl rfl rfl lk (by first | rfl | assumption)) rfl rfl rfl Tryd.call26 (hcn) rfl ⟨⟨_, opd_const, view_nil⟩, trivial⟩ ?_
        refine OD.still (wants_T rfl rfl rfl lk (by first | rfl | assumption)) rfl (still_bin rfl ot opd_const bin_eql) ?_
        refine OD.still (wants_plain rfl) rfl (still_pickT rfl ot (by first | rfl | assumption) ot) ?_
        refine OD.still (wants_plain rfl) rfl (still_mv rfl ot) ?_
        refine OD.split (t := 58) lk (fun hg58 => ?_) (fun hg58 => ?_)
        · have hg58' := hg58; (try simp only [decide_eq_true_eq, decide_eq_false_iff_not, beq_iff_eq, bne_iff_ne, Bool.not_eq_true', Bool.not_eq_false', Bool.not_eq_true, Bool.not_eq_false, beq_eq_false_iff_ne, ne_eq, bne_eq_false_iff_eq, Bool.and_eq_true, Bool.or_eq_true, Bool.not_not] at hg58')
          refine OD.callP (wants_T rfl rfl rfl lk (by first | rfl | assumption)) rfl rfl rfl Tryd.call24 (colsOf_vp) trivial ?_
          refine OD.callP (wants_T rfl rfl rfl lk (by first | rfl | assumption)) rfl rfl rfl Tryd.call26 (hcg) ⟨ot, trivial⟩ ?_
          refine OD.still (wants_T rfl rfl rfl lk (by first | rfl | assumption)) rfl (still_bin rfl ot opd_const bin_eql) ?_
          refine OD.still (wants_plain rfl) rfl (still_pickT rfl ot (by first | rfl | assumption) ot) ?_
          refine OD.still (wants_plain rfl) rfl (still_as rfl ot) ?_
          refine OD.wk (Wk.as_ (n := 63) (l' := [(4, _)]) (S' := [⟨b10, 61, 8, [_, _, _, _, _, _, _, _]⟩]) rfl rfl ⟨lk, trivial⟩) ?_
          refine OD.nil ?_
          refine CD.ret ?_
          refine ⟨.inr rfl, _, [], List.nil_sublist _, ret_one Tryd.results12 (res_tmp (Nat.le_of_ble_eq_true rfl) lk), ?_⟩
          first | exact ⟨rfl, rfl⟩ | (refine ⟨vb ?_, rfl⟩; simp; done)
        · exact absurd hg58 (by simp at hg58)
      · exact absurd hg54 (by simp at hg54)
    · exact absurd hg49 (by simp at hg49)
  · exact absurd hc0 (by simp at hc0)

set_option maxHeartbeats 4000000 in
set_option maxRecDepth 100000 in
theorem colsbad21_vp (hm : (1, marksC) ∈ G) (hw : (0, wordsC) ∈ G) (ht : (2, typesC) ∈ G) (a : Int) (a1 : -9223372036854775808 ≤ a) (a2 : a ≤ 9223372036854775807) (c : Int) (c1 : -9223372036854775808 ≤ c) (c2 : c ≤ 9223372036854775807) (hj : pickedF a 4 = 2) (hk : pickedF c 3 = 1) : VP Tryd.prog G 12 [.v (.int .i64 a), .v (.int .i64 c)] (.v (.bool true)) := by
  refine VC.body Tryd.func12 rfl Tryd.ntmps12 (Nat.le_of_ble_eq_true rfl) fun X0 w0 S00 => ?_
  have hmx : maxLen = 9223372036854775807 := rfl
  have hbad : colsF [⟨⟨#[105, 100]⟩, 2⟩, ⟨⟨#[110]⟩, 2⟩, ⟨⟨#[98]⟩, 3⟩, ⟨⟨#[98]⟩, 1⟩] = 9 := by simp [colsF, colsA, colF, nm_id, nm_n, nm_s, nm_b, nm_sel, str_list]
  have hsz : ∀ c ∈ ([⟨⟨#[105, 100]⟩, 2⟩, ⟨⟨#[110]⟩, 2⟩, ⟨⟨#[98]⟩, 3⟩, ⟨⟨#[98]⟩, 1⟩] : List ColL), c.n.size ≤ maxLen := cols_sz6 (fun c hc => by simp only [List.mem_cons, List.not_mem_nil, or_false] at hc; rcases hc with rfl | rfl | rfl | rfl <;> exact Nat.le_of_ble_eq_true rfl)
  have hkd := Kind_vp hm hw ht [⟨⟨#[105, 100]⟩, 2⟩, ⟨⟨#[110]⟩, 2⟩, ⟨⟨#[98]⟩, 3⟩, ⟨⟨#[98]⟩, 1⟩] (by decide) hsz (by rw [hbad]; decide) [(⟨1, noVl, ⟨#[]⟩⟩ : OpL)]
  have hcb := Cols_vp hm hw ht [⟨⟨#[105, 100]⟩, 2⟩, ⟨⟨#[110]⟩, 2⟩, ⟨⟨#[98]⟩, 3⟩, ⟨⟨#[98]⟩, 1⟩] (by decide) hsz
  rw [hbad] at hkd hcb
  have hc0 := Cols_vp hm hw ht [] (Nat.zero_le _) (fun c hc => by cases hc)
  rw [cols_none] at hc0
  have hcg := Cols_vp hm hw ht colsL (by decide) cols_sz
  rw [cols_ok] at hcg
  have hpa := picked_vp G a 4 a1 a2 (by decide)
  rw [hj] at hpa
  have hpc := picked_vp G c 3 c1 c2 (by decide)
  rw [hk] at hpc
  have hcn := hc0
  clear hc0
  refine CD.seq ?_
  refine CD.region ?_
  refine OD.still (wants_plain rfl) rfl (still_as rfl opd_const) ?_
  refine OD.wk (Wk.as_ (n := 63) (l' := [(0, _), (1, _)]) (S' := []) rfl rfl ⟨lk, lk, trivial⟩) ?_
  refine OD.nil ?_
  refine CD.seq ?_
  refine CD.region ?_
  refine OD.call (wants_plain rfl) rfl rfl rfl Tryd.call24 colsOf_vc trivial (perm_none _) ?_; rintro _ _ ⟨b10, rfl, rfl⟩
  refine OD.still (wants_plain rfl) rfl (still_as rfl ot) ?_
  refine OD.wk (Wk.as_ (n := 63) (l' := [(0, _), (1, _), (5, _)]) (S' := [⟨b10, 61, 8, [_, _, _, _, _, _, _, _]⟩]) rfl rfl ⟨lk, lk, lk, trivial⟩) ?_
  refine OD.nil ?_
  refine CD.seq ?_
  refine CD.region ?_
  refine OD.still (wants_plain rfl) rfl (still_mv rfl ot) ?_
  refine OD.callP (wants_plain rfl) rfl rfl rfl Tryd.call15 (hpa) ⟨ot, opd_const, trivial⟩ ?_
  refine OD.still (wants_plain rfl) rfl (still_as rfl ot) ?_
  refine OD.wk (Wk.as_ (n := 63) (l' := [(1, _), (5, _), (6, _)]) (S' := [⟨b10, 61, 8, [_, _, _, _, _, _, _, _]⟩]) rfl rfl ⟨lk, lk, lk, trivial⟩) ?_
  refine OD.nil ?_
  refine CD.seq ?_
  refine CD.region ?_
  refine OD.still (wants_plain rfl) rfl (still_as rfl opd_const) ?_
  refine OD.wk (Wk.as_ (n := 63) (l' := [(1, _), (5, _), (6, _), (7, _)]) (S' := [⟨b10, 61, 8, [_, _, _, _, _, _, _, _]⟩]) rfl rfl ⟨lk, lk, lk, lk, trivial⟩) ?_
  refine OD.nil ?_
  refine CD.seq ?_
  refine CD.seq ?_
  refine CD.region ?_
  refine OD.still (wants_plain rfl) rfl (still_mv rfl ot) ?_
  refine OD.callP (wants_plain rfl) rfl rfl rfl Tryd.call15 (hpc) ⟨ot, opd_const, trivial⟩ ?_
  refine OD.wk (Wk.as_ (n := 63) (l' := [(5, _), (6, _), (7, _), (14, _)]) (S' := [⟨b10, 61, 8, [_, _, _, _, _, _, _, _]⟩]) rfl rfl ⟨lk, lk, lk, lk, trivial⟩) ?_
  refine OD.nil ?_
  refine CD.block ?_
  refine CD.seq ?_
  refine CD.region ?_
  refine OD.still (wants_plain rfl) rfl (still_bin rfl ot opd_const bin_eql) ?_
  refine OD.still (wants_plain rfl) rfl (still_as rfl ot) ?_
  refine OD.wk (Wk.as_ (n := 63) (l' := [(5, _), (6, _), (7, _), (14, _), (19, _)]) (S' := [⟨b10, 61, 8, [_, _, _, _, _, _, _, _]⟩]) rfl rfl ⟨lk, lk, lk, lk, lk, trivial⟩) ?_
  refine OD.nil ?_
  refine CD.cond ot (fun hc0 => ?_) (fun hc0 => ?_)
  · exact absurd hc0 (by simp at hc0)
  · have hc0' := hc0
    (try simp only [decide_eq_true_eq, decide_eq_false_iff_not, beq_iff_eq, bne_iff_ne, Bool.not_eq_true', Bool.not_eq_false', Bool.not_eq_true, Bool.not_eq_false, beq_eq_false_iff_ne, ne_eq, bne_eq_false_iff_eq, Bool.and_eq_true, Bool.or_eq_true, Bool.not_not, Bool.and_eq_false_iff, Bool.or_eq_false_iff, Int.not_lt, Int.not_le] at hc0')
    refine CD.seq ?_
    refine CD.region ?_
    refine OD.still (wants_plain rfl) rfl (still_bin rfl ot opd_const bin_eql) ?_
    refine OD.still (wants_plain rfl) rfl (still_as rfl ot) ?_
    refine OD.wk (Wk.as_ (n := 63) (l' := [(5, _), (6, _), (25, _)]) (S' := [⟨b10, 61, 8, [_, _, _, _, _, _, _, _]⟩]) rfl rfl ⟨lk, lk, lk, trivial⟩) ?_
    refine OD.nil ?_
    refine CD.cond ot (fun hc1 => ?_) (fun hc1 => ?_)
    · have hc1' := hc1
      (try simp only [decide_eq_true_eq, decide_eq_false_iff_not, beq_iff_eq, bne_iff_ne, Bool.not_eq_true', Bool.not_eq_false', Bool.not_eq_true, Bool.not_eq_false, beq_eq_false_iff_ne, ne_eq, bne_eq_false_iff_eq, Bool.and_eq_true, Bool.or_eq_true, Bool.not_not, Bool.and_eq_false_iff, Bool.or_eq_false_iff, Int.not_lt, Int.not_le] at hc1')
      refine CD.seq ?_
      refine CD.region ?_
      refine OD.still (wants_plain rfl) rfl (still_mv rfl ot) ?_
      refine OD.still (wants_plain rfl) rfl (still_mv rfl ot) ?_
      refine OD.still (wants_plain rfl) rfl (still_mv rfl ot) ?_
      refine OD.still (wants_plain rfl) rfl (still_mv rfl ot) ?_
      refine OD.still (wants_plain rfl) rfl (still_bin rfl ot opd_const (bin_add (wrap_i64 (by omega) (by omega)))) ?_
      refine OD.still (wants_plain rfl) rfl (still_bin (r := .int .i64 3) rfl ot opd_const (bin_rem (show (4 : Int) ≠ 0 by decide))) ?_
      refine OD.still (wants_plain rfl) rfl (still_r2 (mk := Op.indexAddr 56) rfl ot ot (by first | exact ix_list Tryd.runUnderlying56 Tryd.sizeOf61 rfl (by first | assumption | omega) | exact ix_list (j := Int.toNat _) Tryd.runUnderlying56 Tryd.sizeOf61 (Int.toNat_of_nonneg (by omega)).symm (by omega) | exact ix_row Tryd.runUnderlying56 Tryd.sizeOf61 rfl (by first | assumption | omega) | exact ix_row (j := Int.toNat _) Tryd.runUnderlying56 Tryd.sizeOf61 (Int.toNat_of_nonneg (by omega)).symm (by omega))) ?_
      refine OD.still (wants_plain rfl) rfl (still_r1 (mk := fun y => Op.fieldAddr 61 y 0) rfl ot (by first | exact fa_ptr (off := 0) Tryd.runUnderlying61 rfl Tryd.sizeOf9 rfl | exact fa_iptr (off := 0) Tryd.runUnderlying61 rfl Tryd.sizeOf9 rfl)) ?_
      refine OD.still (wants_plain rfl) rfl (still_r1 (mk := Op.load 9) rfl ot (by first | exact ld_blk (k := 0) rfl rfl Tryd.isAgg9 rfl | exact ld_fm cC_len Tryd.isAgg9 (by first | assumption | omega) rfl | exact ld_fm0 cC_len Tryd.isAgg9 (by first | assumption | omega) rfl | exact ld_row (k := 0) cC_len rfl rfl rfl Tryd.isAgg9 (by first | assumption | omega) rfl | exact ld_row0 (k := 0) cC_len rfl rfl rfl Tryd.isAgg9 (by first | assumption | omega) rfl | exact ld_i Tryd.isAgg9 rfl)) ?_
      refine OD.still (wants_plain rfl) rfl (still_r2 (mk := Op.indexAddr 56) rfl ot ot (by first | exact ix_list Tryd.runUnderlying56 Tryd.sizeOf61 rfl (by first | assumption | omega) | exact ix_list (j := Int.toNat _) Tryd.runUnderlying56 Tryd.sizeOf61 (Int.toNat_of_nonneg (by omega)).symm (by omega) | exact ix_row Tryd.runUnderlying56 Tryd.sizeOf61 rfl (by first | assumption | omega) | exact ix_row (j := Int.toNat _) Tryd.runUnderlying56 Tryd.sizeOf61 (Int.toNat_of_nonneg (by omega)).symm (by omega))) ?_
      refine OD.still (wants_plain rfl) rfl (still_r1 (mk := fun y => Op.fieldAddr 61 y 0) rfl ot (by first | exact fa_ptr (off := 0) Tryd.runUnderlying61 rfl Tryd.sizeOf9 rfl | exact fa_iptr (off := 0) Tryd.runUnderlying61 rfl Tryd.sizeOf9 rfl)) ?_
      refine OD.storeAt (k := 0) (cs' := [⟨⟨#[105, 100]⟩, 2⟩, ⟨⟨#[110]⟩, 2⟩, ⟨⟨#[98]⟩, 3⟩, ⟨⟨#[98]⟩, 1⟩].flatMap cC) (wants_plain rfl) rfl rfl ot rfl rfl ot rfl rfl Tryd.sizeOf9 rfl (Nat.le_of_ble_eq_true rfl) rfl ?_
      refine OD.wk (Wk.as_ (n := 63) (l' := [(5, _)]) (S' := [⟨b10, 61, 8, [_, _, _, _, _, _, _, _]⟩]) rfl rfl ⟨lk, trivial⟩) ?_
      refine OD.nil ?_
      refine CD.region ?_
      refine OD.still (wants_plain rfl) rfl (still_as rfl opd_const) ?_
      refine OD.wk (Wk.as_ (n := 63) (l' := [(5, _), (7, _)]) (S' := [⟨b10, 61, 8, [_, _, _, _, _, _, _, _]⟩]) rfl rfl ⟨lk, lk, trivial⟩) ?_
      refine OD.nil ?_
      refine CD.seq ?_
      refine CD.region ?_
      refine OD.still (wants_plain rfl) rfl (still_mv rfl ot) ?_
      refine OD.still (wants_plain rfl) rfl (still_bld (pl := [(0, _)]) (ds := [_, _, _, _, _]) rfl Tryd.zeroValue52 Tryd.runUnderlying52 places52_Pc7 ⟨rfl, opd_const, trivial⟩ rfl rfl) ?_
      refine OD.bldS (pl := [(0, _)]) (zvs := [.int .i64 0, .int .i64 0, .int .i64 0, .string ⟨#[]⟩, .string ⟨#[]⟩]) (ds := [_, _, _, _, _]) (wants_plain rfl) rfl rfl Tryd.zeroValue52 Tryd.runUnderlying48 Tryd.sizeOf52 rfl rfl (by kernel_rfl) ⟨rfl, ot, trivial⟩ rfl rfl (fun b41 => ?_)
      refine OD.perm (perm_q11 (S1 := [⟨b41, 52, 1 * 5, List.flatMap cO ([(⟨1, noVl, ⟨#[]⟩⟩ : OpL)])⟩]) (A := [_])) ?_
      refine OD.giveL (t := 41) (Sq := [⟨b41, 52, 1 * 5, List.flatMap cO ([(⟨1, noVl, ⟨#[]⟩⟩ : OpL)])⟩]) lk (ownL_row (g := cO) (sz := 5) (e := 52) (ls := [(⟨1, noVl, ⟨#[]⟩⟩ : OpL)]) (Nat.le_refl _) (show 1 ≤ maxLen by decide)) (fm_len cO_len _) (perm_r11 (A := [_])) ?_
      refine OD.look (wants_plain rfl) rfl rfl rfl Tryd.call25 (hkd) rfl ⟨⟨_, ot, (view_row (k := 0) (cs := [⟨⟨#[105, 100]⟩, 2⟩, ⟨⟨#[110]⟩, 2⟩, ⟨⟨#[98]⟩, 3⟩, ⟨⟨#[98]⟩, 1⟩].flatMap cC) rfl rfl rfl rfl (Nat.le_refl _) (show 4 ≤ maxLen by decide))⟩, ⟨_, ot, view_same⟩, trivial⟩ ?_
      refine OD.still (wants_plain rfl) rfl (still_mv rfl ot) ?_
      refine OD.still (wants_plain rfl) rfl (still_extract rfl ot rfl) ?_
      refine OD.still (wants_plain rfl) rfl (still_extract rfl ot rfl) ?_
      refine OD.still (wants_plain rfl) rfl (still_as rfl ot) ?_
      refine OD.still (wants_plain rfl) rfl (still_as rfl ot) ?_
      refine OD.wk (Wk.as_ (n := 63) (l' := [(5, _), (7, _), (9, _)]) (S' := [⟨b10, 61, 8, [_, _, _, _, _, _, _, _]⟩]) rfl rfl ⟨lk, lk, lk, trivial⟩) ?_
      refine OD.nil ?_
      refine CD.seq ?_
      refine CD.region ?_
      refine OD.still (wants_plain rfl) rfl (still_mv rfl ot) ?_
      refine OD.look (wants_plain rfl) rfl rfl rfl Tryd.call26 (hcb) rfl ⟨⟨_, ot, (view_row (k := 0) (cs := [⟨⟨#[105, 100]⟩, 2⟩, ⟨⟨#[110]⟩, 2⟩, ⟨⟨#[98]⟩, 3⟩, ⟨⟨#[98]⟩, 1⟩].flatMap cC) rfl rfl rfl rfl (Nat.le_refl _) (show 4 ≤ maxLen by decide))⟩, trivial⟩ ?_
      refine OD.still (wants_plain rfl) rfl (still_mv rfl ot) ?_
      refine OD.still (wants_plain rfl) rfl (still_bin rfl ot ot bin_eql) ?_
      refine OD.still (wants_plain rfl) rfl (still_mv rfl ot) ?_
      refine OD.split (t := 49) lk (fun hg49 => ?_) (fun hg49 => ?_)
      · have hg49' := hg49; (try simp only [decide_eq_true_eq, decide_eq_false_iff_not, beq_iff_eq, bne_iff_ne, Bool.not_eq_true', Bool.not_eq_false', Bool.not_eq_true, Bool.not_eq_false, beq_eq_false_iff_ne, ne_eq, bne_eq_false_iff_eq, Bool.and_eq_true, Bool.or_eq_true, Bool.not_not] at hg49')
        refine OD.still (wants_T rfl rfl rfl lk (by first | rfl | assumption)) rfl (still_mv rfl ot) ?_
        refine OD.still (wants_T rfl rfl rfl lk (by first | rfl | assumption)) rfl (still_mv rfl ot) ?_
        refine OD.still (wants_T rfl rfl rfl lk (by first | rfl | assumption)) rfl (still_bin rfl ot ot bin_eql) ?_
        refine OD.still (wants_plain rfl) rfl (still_pickT rfl ot (by first | rfl | assumption) ot) ?_
        refine OD.still (wants_plain rfl) rfl (still_mv rfl ot) ?_
        refine OD.split (t := 54) lk (fun hg54 => ?_) (fun hg54 => ?_)
        · have hg54' := hg54; (try simp only [decide_eq_true_eq, decide_eq_false_iff_not, beq_iff_eq, bne_iff_ne, Bool.not_eq_true', Bool.not_eq_false', Bool.not_eq_true, Bool.not_eq_false, beq_eq_false_iff_ne, ne_eq, bne_eq_false_iff_eq, Bool.and_eq_true, Bool.or_eq_true, Bool.not_not] at hg54')
          refine OD.look (wants_T rfl rfl rfl lk (by first | rfl | assumption)) rfl rfl rfl Tryd.call26 (hcn) rfl ⟨⟨_, opd_const, view_nil⟩, trivial⟩ ?_
          refine OD.still (wants_T rfl rfl rfl lk (by first | rfl | assumption)) rfl (still_bin rfl ot opd_const bin_eql) ?_
          refine OD.still (wants_plain rfl) rfl (still_pickT rfl ot (by first | rfl | assumption) ot) ?_
          refine OD.still (wants_plain rfl) rfl (still_mv rfl ot) ?_
          refine OD.split (t := 58) lk (fun hg58 => ?_) (fun hg58 => ?_)
          · have hg58' := hg58; (try simp only [decide_eq_true_eq, decide_eq_false_iff_not, beq_iff_eq, bne_iff_ne, Bool.not_eq_true', Bool.not_eq_false', Bool.not_eq_true, Bool.not_eq_false, beq_eq_false_iff_ne, ne_eq, bne_eq_false_iff_eq, Bool.and_eq_true, Bool.or_eq_true, Bool.not_not] at hg58')
            refine OD.callP (wants_T rfl rfl rfl lk (by first | rfl | assumption)) rfl rfl rfl Tryd.call24 (colsOf_vp) trivial ?_
            refine OD.callP (wants_T rfl rfl rfl lk (by first | rfl | assumption)) rfl rfl rfl Tryd.call26 (hcg) ⟨ot, trivial⟩ ?_
            refine OD.still (wants_T rfl rfl rfl lk (by first | rfl | assumption)) rfl (still_bin rfl ot opd_const bin_eql) ?_
            refine OD.still (wants_plain rfl) rfl (still_pickT rfl ot (by first | rfl | assumption) ot) ?_
            refine OD.still (wants_plain rfl) rfl (still_as rfl ot) ?_
            refine OD.wk (Wk.as_ (n := 63) (l' := [(4, _)]) (S' := [⟨b10, 61, 8, [_, _, _, _, _, _, _, _]⟩]) rfl rfl ⟨lk, trivial⟩) ?_
            refine OD.nil ?_
            refine CD.ret ?_
            refine ⟨.inr rfl, _, [], List.nil_sublist _, ret_one Tryd.results12 (res_tmp (Nat.le_of_ble_eq_true rfl) lk), ?_⟩
            first | exact ⟨rfl, rfl⟩ | (refine ⟨vb ?_, rfl⟩; simp; done)
          · exact absurd hg58 (by simp at hg58)
        · exact absurd hg54 (by simp at hg54)
      · exact absurd hg49 (by simp at hg49)
    · exact absurd hc1 (by simp at hc1)

set_option maxHeartbeats 4000000 in
set_option maxRecDepth 100000 in
theorem colsbad22_vp (hm : (1, marksC) ∈ G) (hw : (0, wordsC) ∈ G) (ht : (2, typesC) ∈ G) (a : Int) (a1 : -9223372036854775808 ≤ a) (a2 : a ≤ 9223372036854775807) (c : Int) (c1 : -9223372036854775808 ≤ c) (c2 : c ≤ 9223372036854775807) (hj : pickedF a 4 = 2) (hk : pickedF c 3 = 2) : VP Tryd.prog G 12 [.v (.int .i64 a), .v (.int .i64 c)] (.v (.bool true)) := by
  refine VC.body Tryd.func12 rfl Tryd.ntmps12 (Nat.le_of_ble_eq_true rfl) fun X0 w0 S00 => ?_
  have hmx : maxLen = 9223372036854775807 := rfl
  have hbad : colsF [⟨⟨#[105, 100]⟩, 2⟩, ⟨⟨#[110]⟩, 2⟩, ⟨⟨#[83, 69, 76, 69, 67, 84]⟩, 3⟩, ⟨⟨#[98]⟩, 1⟩] = 6 := by simp [colsF, colsA, colF, nm_id, nm_n, nm_s, nm_b, nm_sel, str_list]
  have hsz : ∀ c ∈ ([⟨⟨#[105, 100]⟩, 2⟩, ⟨⟨#[110]⟩, 2⟩, ⟨⟨#[83, 69, 76, 69, 67, 84]⟩, 3⟩, ⟨⟨#[98]⟩, 1⟩] : List ColL), c.n.size ≤ maxLen := cols_sz6 (fun c hc => by simp only [List.mem_cons, List.not_mem_nil, or_false] at hc; rcases hc with rfl | rfl | rfl | rfl <;> exact Nat.le_of_ble_eq_true rfl)
  have hkd := Kind_vp hm hw ht [⟨⟨#[105, 100]⟩, 2⟩, ⟨⟨#[110]⟩, 2⟩, ⟨⟨#[83, 69, 76, 69, 67, 84]⟩, 3⟩, ⟨⟨#[98]⟩, 1⟩] (by decide) hsz (by rw [hbad]; decide) [(⟨1, noVl, ⟨#[]⟩⟩ : OpL)]
  have hcb := Cols_vp hm hw ht [⟨⟨#[105, 100]⟩, 2⟩, ⟨⟨#[110]⟩, 2⟩, ⟨⟨#[83, 69, 76, 69, 67, 84]⟩, 3⟩, ⟨⟨#[98]⟩, 1⟩] (by decide) hsz
  rw [hbad] at hkd hcb
  have hc0 := Cols_vp hm hw ht [] (Nat.zero_le _) (fun c hc => by cases hc)
  rw [cols_none] at hc0
  have hcg := Cols_vp hm hw ht colsL (by decide) cols_sz
  rw [cols_ok] at hcg
  have hpa := picked_vp G a 4 a1 a2 (by decide)
  rw [hj] at hpa
  have hpc := picked_vp G c 3 c1 c2 (by decide)
  rw [hk] at hpc
  have hcn := hc0
  clear hc0
  refine CD.seq ?_
  refine CD.region ?_
  refine OD.still (wants_plain rfl) rfl (still_as rfl opd_const) ?_
  refine OD.wk (Wk.as_ (n := 63) (l' := [(0, _), (1, _)]) (S' := []) rfl rfl ⟨lk, lk, trivial⟩) ?_
  refine OD.nil ?_
  refine CD.seq ?_
  refine CD.region ?_
  refine OD.call (wants_plain rfl) rfl rfl rfl Tryd.call24 colsOf_vc trivial (perm_none _) ?_; rintro _ _ ⟨b10, rfl, rfl⟩
  refine OD.still (wants_plain rfl) rfl (still_as rfl ot) ?_
  refine OD.wk (Wk.as_ (n := 63) (l' := [(0, _), (1, _), (5, _)]) (S' := [⟨b10, 61, 8, [_, _, _, _, _, _, _, _]⟩]) rfl rfl ⟨lk, lk, lk, trivial⟩) ?_
  refine OD.nil ?_
  refine CD.seq ?_
  refine CD.region ?_
  refine OD.still (wants_plain rfl) rfl (still_mv rfl ot) ?_
  refine OD.callP (wants_plain rfl) rfl rfl rfl Tryd.call15 (hpa) ⟨ot, opd_const, trivial⟩ ?_
  refine OD.still (wants_plain rfl) rfl (still_as rfl ot) ?_
  refine OD.wk (Wk.as_ (n := 63) (l' := [(1, _), (5, _), (6, _)]) (S' := [⟨b10, 61, 8, [_, _, _, _, _, _, _, _]⟩]) rfl rfl ⟨lk, lk, lk, trivial⟩) ?_
  refine OD.nil ?_
  refine CD.seq ?_
  refine CD.region ?_
  refine OD.still (wants_plain rfl) rfl (still_as rfl opd_const) ?_
  refine OD.wk (Wk.as_ (n := 63) (l' := [(1, _), (5, _), (6, _), (7, _)]) (S' := [⟨b10, 61, 8, [_, _, _, _, _, _, _, _]⟩]) rfl rfl ⟨lk, lk, lk, lk, trivial⟩) ?_
  refine OD.nil ?_
  refine CD.seq ?_
  refine CD.seq ?_
  refine CD.region ?_
  refine OD.still (wants_plain rfl) rfl (still_mv rfl ot) ?_
  refine OD.callP (wants_plain rfl) rfl rfl rfl Tryd.call15 (hpc) ⟨ot, opd_const, trivial⟩ ?_
  refine OD.wk (Wk.as_ (n := 63) (l' := [(5, _), (6, _), (7, _), (14, _)]) (S' := [⟨b10, 61, 8, [_, _, _, _, _, _, _, _]⟩]) rfl rfl ⟨lk, lk, lk, lk, trivial⟩) ?_
  refine OD.nil ?_
  refine CD.block ?_
  refine CD.seq ?_
  refine CD.region ?_
  refine OD.still (wants_plain rfl) rfl (still_bin rfl ot opd_const bin_eql) ?_
  refine OD.still (wants_plain rfl) rfl (still_as rfl ot) ?_
  refine OD.wk (Wk.as_ (n := 63) (l' := [(5, _), (6, _), (7, _), (14, _), (19, _)]) (S' := [⟨b10, 61, 8, [_, _, _, _, _, _, _, _]⟩]) rfl rfl ⟨lk, lk, lk, lk, lk, trivial⟩) ?_
  refine OD.nil ?_
  refine CD.cond ot (fun hc0 => ?_) (fun hc0 => ?_)
  · exact absurd hc0 (by simp at hc0)
  · have hc0' := hc0
    (try simp only [decide_eq_true_eq, decide_eq_false_iff_not, beq_iff_eq, bne_iff_ne, Bool.not_eq_true', Bool.not_eq_false', Bool.not_eq_true, Bool.not_eq_false, beq_eq_false_iff_ne, ne_eq, bne_eq_false_iff_eq, Bool.and_eq_true, Bool.or_eq_true, Bool.not_not, Bool.and_eq_false_iff, Bool.or_eq_false_iff, Int.not_lt, Int.not_le] at hc0')
    refine CD.seq ?_
    refine CD.region ?_
    refine OD.still (wants_plain rfl) rfl (still_bin rfl ot opd_const bin_eql) ?_
    refine OD.still (wants_plain rfl) rfl (still_as rfl ot) ?_
    refine OD.wk (Wk.as_ (n := 63) (l' := [(5, _), (6, _), (25, _)]) (S' := [⟨b10, 61, 8, [_, _, _, _, _, _, _, _]⟩]) rfl rfl ⟨lk, lk, lk, trivial⟩) ?_
    refine OD.nil ?_
    refine CD.cond ot (fun hc1 => ?_) (fun hc1 => ?_)
    · exact absurd hc1 (by simp at hc1)
    · have hc1' := hc1
      (try simp only [decide_eq_true_eq, decide_eq_false_iff_not, beq_iff_eq, bne_iff_ne, Bool.not_eq_true', Bool.not_eq_false', Bool.not_eq_true, Bool.not_eq_false, beq_eq_false_iff_ne, ne_eq, bne_eq_false_iff_eq, Bool.and_eq_true, Bool.or_eq_true, Bool.not_not, Bool.and_eq_false_iff, Bool.or_eq_false_iff, Int.not_lt, Int.not_le] at hc1')
      refine CD.seq ?_
      refine CD.region ?_
      refine OD.still (wants_plain rfl) rfl (still_mv rfl ot) ?_
      refine OD.still (wants_plain rfl) rfl (still_mv rfl ot) ?_
      refine OD.still (wants_plain rfl) rfl (still_r2 (mk := Op.indexAddr 56) rfl ot ot (by first | exact ix_list Tryd.runUnderlying56 Tryd.sizeOf61 rfl (by first | assumption | omega) | exact ix_list (j := Int.toNat _) Tryd.runUnderlying56 Tryd.sizeOf61 (Int.toNat_of_nonneg (by omega)).symm (by omega) | exact ix_row Tryd.runUnderlying56 Tryd.sizeOf61 rfl (by first | assumption | omega) | exact ix_row (j := Int.toNat _) Tryd.runUnderlying56 Tryd.sizeOf61 (Int.toNat_of_nonneg (by omega)).symm (by omega))) ?_
      refine OD.still (wants_plain rfl) rfl (still_r1 (mk := fun y => Op.fieldAddr 61 y 0) rfl ot (by first | exact fa_ptr (off := 0) Tryd.runUnderlying61 rfl Tryd.sizeOf9 rfl | exact fa_iptr (off := 0) Tryd.runUnderlying61 rfl Tryd.sizeOf9 rfl)) ?_
      refine OD.storeAt (k := 0) (cs' := [⟨⟨#[105, 100]⟩, 2⟩, ⟨⟨#[110]⟩, 2⟩, ⟨⟨#[83, 69, 76, 69, 67, 84]⟩, 3⟩, ⟨⟨#[98]⟩, 1⟩].flatMap cC) (wants_plain rfl) rfl rfl ot rfl rfl opd_const rfl rfl Tryd.sizeOf9 rfl (Nat.le_of_ble_eq_true rfl) rfl ?_
      refine OD.wk (Wk.as_ (n := 63) (l' := [(5, _)]) (S' := [⟨b10, 61, 8, [_, _, _, _, _, _, _, _]⟩]) rfl rfl ⟨lk, trivial⟩) ?_
      refine OD.nil ?_
      refine CD.region ?_
      refine OD.still (wants_plain rfl) rfl (still_as rfl opd_const) ?_
      refine OD.wk (Wk.as_ (n := 63) (l' := [(5, _), (7, _)]) (S' := [⟨b10, 61, 8, [_, _, _, _, _, _, _, _]⟩]) rfl rfl ⟨lk, lk, trivial⟩) ?_
      refine OD.nil ?_
      refine CD.seq ?_
      refine CD.region ?_
      refine OD.still (wants_plain rfl) rfl (still_mv rfl ot) ?_
      refine OD.still (wants_plain rfl) rfl (still_bld (pl := [(0, _)]) (ds := [_, _, _, _, _]) rfl Tryd.zeroValue52 Tryd.runUnderlying52 places52_Pc7 ⟨rfl, opd_const, trivial⟩ rfl rfl) ?_
      refine OD.bldS (pl := [(0, _)]) (zvs := [.int .i64 0, .int .i64 0, .int .i64 0, .string ⟨#[]⟩, .string ⟨#[]⟩]) (ds := [_, _, _, _, _]) (wants_plain rfl) rfl rfl Tryd.zeroValue52 Tryd.runUnderlying48 Tryd.sizeOf52 rfl rfl (by kernel_rfl) ⟨rfl, ot, trivial⟩ rfl rfl (fun b41 => ?_)
      refine OD.perm (perm_q11 (S1 := [⟨b41, 52, 1 * 5, List.flatMap cO ([(⟨1, noVl, ⟨#[]⟩⟩ : OpL)])⟩]) (A := [_])) ?_
      refine OD.giveL (t := 41) (Sq := [⟨b41, 52, 1 * 5, List.flatMap cO ([(⟨1, noVl, ⟨#[]⟩⟩ : OpL)])⟩]) lk (ownL_row (g := cO) (sz := 5) (e := 52) (ls := [(⟨1, noVl, ⟨#[]⟩⟩ : OpL)]) (Nat.le_refl _) (show 1 ≤ maxLen by decide)) (fm_len cO_len _) (perm_r11 (A := [_])) ?_
      refine OD.look (wants_plain rfl) rfl rfl rfl Tryd.call25 (hkd) rfl ⟨⟨_, ot, (view_row (k := 0) (cs := [⟨⟨#[105, 100]⟩, 2⟩, ⟨⟨#[110]⟩, 2⟩, ⟨⟨#[83, 69, 76, 69, 67, 84]⟩, 3⟩, ⟨⟨#[98]⟩, 1⟩].flatMap cC) rfl rfl rfl rfl (Nat.le_refl _) (show 4 ≤ maxLen by decide))⟩, ⟨_, ot, view_same⟩, trivial⟩ ?_
      refine OD.still (wants_plain rfl) rfl (still_mv rfl ot) ?_
      refine OD.still (wants_plain rfl) rfl (still_extract rfl ot rfl) ?_
      refine OD.still (wants_plain rfl) rfl (still_extract rfl ot rfl) ?_
      refine OD.still (wants_plain rfl) rfl (still_as rfl ot) ?_
      refine OD.still (wants_plain rfl) rfl (still_as rfl ot) ?_
      refine OD.wk (Wk.as_ (n := 63) (l' := [(5, _), (7, _), (9, _)]) (S' := [⟨b10, 61, 8, [_, _, _, _, _, _, _, _]⟩]) rfl rfl ⟨lk, lk, lk, trivial⟩) ?_
      refine OD.nil ?_
      refine CD.seq ?_
      refine CD.region ?_
      refine OD.still (wants_plain rfl) rfl (still_mv rfl ot) ?_
      refine OD.look (wants_plain rfl) rfl rfl rfl Tryd.call26 (hcb) rfl ⟨⟨_, ot, (view_row (k := 0) (cs := [⟨⟨#[105, 100]⟩, 2⟩, ⟨⟨#[110]⟩, 2⟩, ⟨⟨#[83, 69, 76, 69, 67, 84]⟩, 3⟩, ⟨⟨#[98]⟩, 1⟩].flatMap cC) rfl rfl rfl rfl (Nat.le_refl _) (show 4 ≤ maxLen by decide))⟩, trivial⟩ ?_
      refine OD.still (wants_plain rfl) rfl (still_mv rfl ot) ?_
      refine OD.still (wants_plain rfl) rfl (still_bin rfl ot ot bin_eql) ?_
      refine OD.still (wants_plain rfl) rfl (still_mv rfl ot) ?_
      refine OD.split (t := 49) lk (fun hg49 => ?_) (fun hg49 => ?_)
      · have hg49' := hg49; (try simp only [decide_eq_true_eq, decide_eq_false_iff_not, beq_iff_eq, bne_iff_ne, Bool.not_eq_true', Bool.not_eq_false', Bool.not_eq_true, Bool.not_eq_false, beq_eq_false_iff_ne, ne_eq, bne_eq_false_iff_eq, Bool.and_eq_true, Bool.or_eq_true, Bool.not_not] at hg49')
        refine OD.still (wants_T rfl rfl rfl lk (by first | rfl | assumption)) rfl (still_mv rfl ot) ?_
        refine OD.still (wants_T rfl rfl rfl lk (by first | rfl | assumption)) rfl (still_mv rfl ot) ?_
        refine OD.still (wants_T rfl rfl rfl lk (by first | rfl | assumption)) rfl (still_bin rfl ot ot bin_eql) ?_
        refine OD.still (wants_plain rfl) rfl (still_pickT rfl ot (by first | rfl | assumption) ot) ?_
        refine OD.still (wants_plain rfl) rfl (still_mv rfl ot) ?_
        refine OD.split (t := 54) lk (fun hg54 => ?_) (fun hg54 => ?_)
        · have hg54' := hg54; (try simp only [decide_eq_true_eq, decide_eq_false_iff_not, beq_iff_eq, bne_iff_ne, Bool.not_eq_true', Bool.not_eq_false', Bool.not_eq_true, Bool.not_eq_false, beq_eq_false_iff_ne, ne_eq, bne_eq_false_iff_eq, Bool.and_eq_true, Bool.or_eq_true, Bool.not_not] at hg54')
          refine OD.look (wants_T rfl rfl rfl lk (by first | rfl | assumption)) rfl rfl rfl Tryd.call26 (hcn) rfl ⟨⟨_, opd_const, view_nil⟩, trivial⟩ ?_
          refine OD.still (wants_T rfl rfl rfl lk (by first | rfl | assumption)) rfl (still_bin rfl ot opd_const bin_eql) ?_
          refine OD.still (wants_plain rfl) rfl (still_pickT rfl ot (by first | rfl | assumption) ot) ?_
          refine OD.still (wants_plain rfl) rfl (still_mv rfl ot) ?_
          refine OD.split (t := 58) lk (fun hg58 => ?_) (fun hg58 => ?_)
          · have hg58' := hg58; (try simp only [decide_eq_true_eq, decide_eq_false_iff_not, beq_iff_eq, bne_iff_ne, Bool.not_eq_true', Bool.not_eq_false', Bool.not_eq_true, Bool.not_eq_false, beq_eq_false_iff_ne, ne_eq, bne_eq_false_iff_eq, Bool.and_eq_true, Bool.or_eq_true, Bool.not_not] at hg58')
            refine OD.callP (wants_T rfl rfl rfl lk (by first | rfl | assumption)) rfl rfl rfl Tryd.call24 (colsOf_vp) trivial ?_
            refine OD.callP (wants_T rfl rfl rfl lk (by first | rfl | assumption)) rfl rfl rfl Tryd.call26 (hcg) ⟨ot, trivial⟩ ?_
            refine OD.still (wants_T rfl rfl rfl lk (by first | rfl | assumption)) rfl (still_bin rfl ot opd_const bin_eql) ?_
            refine OD.still (wants_plain rfl) rfl (still_pickT rfl ot (by first | rfl | assumption) ot) ?_
            refine OD.still (wants_plain rfl) rfl (still_as rfl ot) ?_
            refine OD.wk (Wk.as_ (n := 63) (l' := [(4, _)]) (S' := [⟨b10, 61, 8, [_, _, _, _, _, _, _, _]⟩]) rfl rfl ⟨lk, trivial⟩) ?_
            refine OD.nil ?_
            refine CD.ret ?_
            refine ⟨.inr rfl, _, [], List.nil_sublist _, ret_one Tryd.results12 (res_tmp (Nat.le_of_ble_eq_true rfl) lk), ?_⟩
            first | exact ⟨rfl, rfl⟩ | (refine ⟨vb ?_, rfl⟩; simp; done)
          · exact absurd hg58 (by simp at hg58)
        · exact absurd hg54 (by simp at hg54)
      · exact absurd hg49 (by simp at hg49)

set_option maxHeartbeats 4000000 in
set_option maxRecDepth 100000 in
theorem colsbad30_vp (hm : (1, marksC) ∈ G) (hw : (0, wordsC) ∈ G) (ht : (2, typesC) ∈ G) (a : Int) (a1 : -9223372036854775808 ≤ a) (a2 : a ≤ 9223372036854775807) (c : Int) (c1 : -9223372036854775808 ≤ c) (c2 : c ≤ 9223372036854775807) (hj : pickedF a 4 = 3) (hk : pickedF c 3 = 0) : VP Tryd.prog G 12 [.v (.int .i64 a), .v (.int .i64 c)] (.v (.bool true)) := by
  refine VC.body Tryd.func12 rfl Tryd.ntmps12 (Nat.le_of_ble_eq_true rfl) fun X0 w0 S00 => ?_
  have hmx : maxLen = 9223372036854775807 := rfl
  have hbad : colsF [⟨⟨#[105, 100]⟩, 2⟩, ⟨⟨#[110]⟩, 2⟩, ⟨⟨#[115]⟩, 3⟩, ⟨⟨#[98]⟩, 0⟩] = 2 := by simp [colsF, colsA, colF, nm_id, nm_n, nm_s, nm_b, nm_sel, str_list]
  have hsz : ∀ c ∈ ([⟨⟨#[105, 100]⟩, 2⟩, ⟨⟨#[110]⟩, 2⟩, ⟨⟨#[115]⟩, 3⟩, ⟨⟨#[98]⟩, 0⟩] : List ColL), c.n.size ≤ maxLen := cols_sz6 (fun c hc => by simp only [List.mem_cons, List.not_mem_nil, or_false] at hc; rcases hc with rfl | rfl | rfl | rfl <;> exact Nat.le_of_ble_eq_true rfl)
  have hkd := Kind_vp hm hw ht [⟨⟨#[105, 100]⟩, 2⟩, ⟨⟨#[110]⟩, 2⟩, ⟨⟨#[115]⟩, 3⟩, ⟨⟨#[98]⟩, 0⟩] (by decide) hsz (by rw [hbad]; decide) [(⟨1, noVl, ⟨#[]⟩⟩ : OpL)]
  have hcb := Cols_vp hm hw ht [⟨⟨#[105, 100]⟩, 2⟩, ⟨⟨#[110]⟩, 2⟩, ⟨⟨#[115]⟩, 3⟩, ⟨⟨#[98]⟩, 0⟩] (by decide) hsz
  rw [hbad] at hkd hcb
  have hc0 := Cols_vp hm hw ht [] (Nat.zero_le _) (fun c hc => by cases hc)
  rw [cols_none] at hc0
  have hcg := Cols_vp hm hw ht colsL (by decide) cols_sz
  rw [cols_ok] at hcg
  have hpa := picked_vp G a 4 a1 a2 (by decide)
  rw [hj] at hpa
  have hpc := picked_vp G c 3 c1 c2 (by decide)
  rw [hk] at hpc
  have hcn := hc0
  clear hc0
  refine CD.seq ?_
  refine CD.region ?_
  refine OD.still (wants_plain rfl) rfl (still_as rfl opd_const) ?_
  refine OD.wk (Wk.as_ (n := 63) (l' := [(0, _), (1, _)]) (S' := []) rfl rfl ⟨lk, lk, trivial⟩) ?_
  refine OD.nil ?_
  refine CD.seq ?_
  refine CD.region ?_
  refine OD.call (wants_plain rfl) rfl rfl rfl Tryd.call24 colsOf_vc trivial (perm_none _) ?_; rintro _ _ ⟨b10, rfl, rfl⟩
  refine OD.still (wants_plain rfl) rfl (still_as rfl ot) ?_
  refine OD.wk (Wk.as_ (n := 63) (l' := [(0, _), (1, _), (5, _)]) (S' := [⟨b10, 61, 8, [_, _, _, _, _, _, _, _]⟩]) rfl rfl ⟨lk, lk, lk, trivial⟩) ?_
  refine OD.nil ?_
  refine CD.seq ?_
  refine CD.region ?_
  refine OD.still (wants_plain rfl) rfl (still_mv rfl ot) ?_
  refine OD.callP (wants_plain rfl) rfl rfl rfl Tryd.call15 (hpa) ⟨ot, opd_const, trivial⟩ ?_
  refine OD.still (wants_plain rfl) rfl (still_as rfl ot) ?_
  refine OD.wk (Wk.as_ (n := 63) (l' := [(1, _), (5, _), (6, _)]) (S' := [⟨b10, 61, 8, [_, _, _, _, _, _, _, _]⟩]) rfl rfl ⟨lk, lk, lk, trivial⟩) ?_
  refine OD.nil ?_
  refine CD.seq ?_
  refine CD.region ?_
  refine OD.still (wants_plain rfl) rfl (still_as rfl opd_const) ?_
  refine OD.wk (Wk.as_ (n := 63) (l' := [(1, _), (5, _), (6, _), (7, _)]) (S' := [⟨b10, 61, 8, [_, _, _, _, _, _, _, _]⟩]) rfl rfl ⟨lk, lk, lk, lk, trivial⟩) ?_
  refine OD.nil ?_
  refine CD.seq ?_
  refine CD.seq ?_
  refine CD.region ?_
  refine OD.still (wants_plain rfl) rfl (still_mv rfl ot) ?_
  refine OD.callP (wants_plain rfl) rfl rfl rfl Tryd.call15 (hpc) ⟨ot, opd_const, trivial⟩ ?_
  refine OD.wk (Wk.as_ (n := 63) (l' := [(5, _), (6, _), (7, _), (14, _)]) (S' := [⟨b10, 61, 8, [_, _, _, _, _, _, _, _]⟩]) rfl rfl ⟨lk, lk, lk, lk, trivial⟩) ?_
  refine OD.nil ?_
  refine CD.block ?_
  refine CD.seq ?_
  refine CD.region ?_
  refine OD.still (wants_plain rfl) rfl (still_bin rfl ot opd_const bin_eql) ?_
  refine OD.still (wants_plain rfl) rfl (still_as rfl ot) ?_
  refine OD.wk (Wk.as_ (n := 63) (l' := [(5, _), (6, _), (7, _), (14, _), (19, _)]) (S' := [⟨b10, 61, 8, [_, _, _, _, _, _, _, _]⟩]) rfl rfl ⟨lk, lk, lk, lk, lk, trivial⟩) ?_
  refine OD.nil ?_
  refine CD.cond ot (fun hc0 => ?_) (fun hc0 => ?_)
  · have hc0' := hc0
    (try simp only [decide_eq_true_eq, decide_eq_false_iff_not, beq_iff_eq, bne_iff_ne, Bool.not_eq_true', Bool.not_eq_false', Bool.not_eq_true, Bool.not_eq_false, beq_eq_false_iff_ne, ne_eq, bne_eq_false_iff_eq, Bool.and_eq_true, Bool.or_eq_true, Bool.not_not, Bool.and_eq_false_iff, Bool.or_eq_false_iff, Int.not_lt, Int.not_le] at hc0')
    refine CD.region ?_
    refine OD.still (wants_plain rfl) rfl (still_mv rfl ot) ?_
    refine OD.still (wants_plain rfl) rfl (still_mv rfl ot) ?_
    refine OD.still (wants_plain rfl) rfl (still_r2 (mk := Op.indexAddr 56) rfl ot ot (by first | exact ix_list Tryd.runUnderlying56 Tryd.sizeOf61 rfl (by first | assumption | omega) | exact ix_list (j := Int.toNat _) Tryd.runUnderlying56 Tryd.sizeOf61 (Int.toNat_of_nonneg (by omega)).symm (by omega) | exact ix_row Tryd.runUnderlying56 Tryd.sizeOf61 rfl (by first | assumption | omega) | exact ix_row (j := Int.toNat _) Tryd.runUnderlying56 Tryd.sizeOf61 (Int.toNat_of_nonneg (by omega)).symm (by omega))) ?_
    refine OD.still (wants_plain rfl) rfl (still_r1 (mk := fun y => Op.fieldAddr 61 y 1) rfl ot (by first | exact fa_ptr (off := 1) Tryd.runUnderlying61 rfl Tryd.sizeOf3 rfl | exact fa_iptr (off := 1) Tryd.runUnderlying61 rfl Tryd.sizeOf3 rfl)) ?_
    refine OD.storeAt (k := 0) (cs' := [⟨⟨#[105, 100]⟩, 2⟩, ⟨⟨#[110]⟩, 2⟩, ⟨⟨#[115]⟩, 3⟩, ⟨⟨#[98]⟩, 0⟩].flatMap cC) (wants_plain rfl) rfl rfl ot rfl rfl opd_const rfl rfl Tryd.sizeOf3 rfl (Nat.le_of_ble_eq_true rfl) rfl ?_
    refine OD.wk (Wk.as_ (n := 63) (l' := [(5, _), (7, _)]) (S' := [⟨b10, 61, 8, [_, _, _, _, _, _, _, _]⟩]) rfl rfl ⟨lk, lk, trivial⟩) ?_
    refine OD.nil ?_
    refine CD.seq ?_
    refine CD.region ?_
    refine OD.still (wants_plain rfl) rfl (still_mv rfl ot) ?_
    refine OD.still (wants_plain rfl) rfl (still_bld (pl := [(0, _)]) (ds := [_, _, _, _, _]) rfl Tryd.zeroValue52 Tryd.runUnderlying52 places52_Pc7 ⟨rfl, opd_const, trivial⟩ rfl rfl) ?_
    refine OD.bldS (pl := [(0, _)]) (zvs := [.int .i64 0, .int .i64 0, .int .i64 0, .string ⟨#[]⟩, .string ⟨#[]⟩]) (ds := [_, _, _, _, _]) (wants_plain rfl) rfl rfl Tryd.zeroValue52 Tryd.runUnderlying48 Tryd.sizeOf52 rfl rfl (by kernel_rfl) ⟨rfl, ot, trivial⟩ rfl rfl (fun b41 => ?_)
    refine OD.perm (perm_q11 (S1 := [⟨b41, 52, 1 * 5, List.flatMap cO ([(⟨1, noVl, ⟨#[]⟩⟩ : OpL)])⟩]) (A := [_])) ?_
    refine OD.giveL (t := 41) (Sq := [⟨b41, 52, 1 * 5, List.flatMap cO ([(⟨1, noVl, ⟨#[]⟩⟩ : OpL)])⟩]) lk (ownL_row (g := cO) (sz := 5) (e := 52) (ls := [(⟨1, noVl, ⟨#[]⟩⟩ : OpL)]) (Nat.le_refl _) (show 1 ≤ maxLen by decide)) (fm_len cO_len _) (perm_r11 (A := [_])) ?_
    refine OD.look (wants_plain rfl) rfl rfl rfl Tryd.call25 (hkd) rfl ⟨⟨_, ot, (view_row (k := 0) (cs := [⟨⟨#[105, 100]⟩, 2⟩, ⟨⟨#[110]⟩, 2⟩, ⟨⟨#[115]⟩, 3⟩, ⟨⟨#[98]⟩, 0⟩].flatMap cC) rfl rfl rfl rfl (Nat.le_refl _) (show 4 ≤ maxLen by decide))⟩, ⟨_, ot, view_same⟩, trivial⟩ ?_
    refine OD.still (wants_plain rfl) rfl (still_mv rfl ot) ?_
    refine OD.still (wants_plain rfl) rfl (still_extract rfl ot rfl) ?_
    refine OD.still (wants_plain rfl) rfl (still_extract rfl ot rfl) ?_
    refine OD.still (wants_plain rfl) rfl (still_as rfl ot) ?_
    refine OD.still (wants_plain rfl) rfl (still_as rfl ot) ?_
    refine OD.wk (Wk.as_ (n := 63) (l' := [(5, _), (7, _), (9, _)]) (S' := [⟨b10, 61, 8, [_, _, _, _, _, _, _, _]⟩]) rfl rfl ⟨lk, lk, lk, trivial⟩) ?_
    refine OD.nil ?_
    refine CD.seq ?_
    refine CD.region ?_
    refine OD.still (wants_plain rfl) rfl (still_mv rfl ot) ?_
    refine OD.look (wants_plain rfl) rfl rfl rfl Tryd.call26 (hcb) rfl ⟨⟨_, ot, (view_row (k := 0) (cs := [⟨⟨#[105, 100]⟩, 2⟩, ⟨⟨#[110]⟩, 2⟩, ⟨⟨#[115]⟩, 3⟩, ⟨⟨#[98]⟩, 0⟩].flatMap cC) rfl rfl rfl rfl (Nat.le_refl _) (show 4 ≤ maxLen by decide))⟩, trivial⟩ ?_
    refine OD.still (wants_plain rfl) rfl (still_mv rfl ot) ?_
    refine OD.still (wants_plain rfl) rfl (still_bin rfl ot ot bin_eql) ?_
    refine OD.still (wants_plain rfl) rfl (still_mv rfl ot) ?_
    refine OD.split (t := 49) lk (fun hg49 => ?_) (fun hg49 => ?_)
    · have hg49' := hg49; (try simp only [decide_eq_true_eq, decide_eq_false_iff_not, beq_iff_eq, bne_iff_ne, Bool.not_eq_true', Bool.not_eq_false', Bool.not_eq_true, Bool.not_eq_false, beq_eq_false_iff_ne, ne_eq, bne_eq_false_iff_eq, Bool.and_eq_true, Bool.or_eq_true, Bool.not_not] at hg49')
      refine OD.still (wants_T rfl rfl rfl lk (by first | rfl | assumption)) rfl (still_mv rfl ot) ?_
      refine OD.still (wants_T rfl rfl rfl lk (by first | rfl | assumption)) rfl (still_mv rfl ot) ?_
      refine OD.still (wants_T rfl rfl rfl lk (by first | rfl | assumption)) rfl (still_bin rfl ot ot bin_eql) ?_
      refine OD.still (wants_plain rfl) rfl (still_pickT rfl ot (by first | rfl | assumption) ot) ?_
      refine OD.still (wants_plain rfl) rfl (still_mv rfl ot) ?_
      refine OD.split (t := 54) lk (fun hg54 => ?_) (fun hg54 => ?_)
      · have hg54' := hg54; (try simp only [decide_eq_true_eq, decide_eq_false_iff_not, beq_iff_eq, bne_iff_ne, Bool.not_eq_true', Bool.not_eq_false', Bool.not_eq_true, Bool.not_eq_false, beq_eq_false_iff_ne, ne_eq, bne_eq_false_iff_eq, Bool.and_eq_true, Bool.or_eq_true, Bool.not_not] at hg54')
        refine OD.look (wants_T rfl rfl rfl lk (by first | rfl | assumption)) rfl rfl rfl Tryd.call26 (hcn) rfl ⟨⟨_, opd_const, view_nil⟩, trivial⟩ ?_
        refine OD.still (wants_T rfl rfl rfl lk (by first | rfl | assumption)) rfl (still_bin rfl ot opd_const bin_eql) ?_
        refine OD.still (wants_plain rfl) rfl (still_pickT rfl ot (by first | rfl | assumption) ot) ?_
        refine OD.still (wants_plain rfl) rfl (still_mv rfl ot) ?_
        refine OD.split (t := 58) lk (fun hg58 => ?_) (fun hg58 => ?_)
        · have hg58' := hg58; (try simp only [decide_eq_true_eq, decide_eq_false_iff_not, beq_iff_eq, bne_iff_ne, Bool.not_eq_true', Bool.not_eq_false', Bool.not_eq_true, Bool.not_eq_false, beq_eq_false_iff_ne, ne_eq, bne_eq_false_iff_eq, Bool.and_eq_true, Bool.or_eq_true, Bool.not_not] at hg58')
          refine OD.callP (wants_T rfl rfl rfl lk (by first | rfl | assumption)) rfl rfl rfl Tryd.call24 (colsOf_vp) trivial ?_
          refine OD.callP (wants_T rfl rfl rfl lk (by first | rfl | assumption)) rfl rfl rfl Tryd.call26 (hcg) ⟨ot, trivial⟩ ?_
          refine OD.still (wants_T rfl rfl rfl lk (by first | rfl | assumption)) rfl (still_bin rfl ot opd_const bin_eql) ?_
          refine OD.still (wants_plain rfl) rfl (still_pickT rfl ot (by first | rfl | assumption) ot) ?_
          refine OD.still (wants_plain rfl) rfl (still_as rfl ot) ?_
          refine OD.wk (Wk.as_ (n := 63) (l' := [(4, _)]) (S' := [⟨b10, 61, 8, [_, _, _, _, _, _, _, _]⟩]) rfl rfl ⟨lk, trivial⟩) ?_
          refine OD.nil ?_
          refine CD.ret ?_
          refine ⟨.inr rfl, _, [], List.nil_sublist _, ret_one Tryd.results12 (res_tmp (Nat.le_of_ble_eq_true rfl) lk), ?_⟩
          first | exact ⟨rfl, rfl⟩ | (refine ⟨vb ?_, rfl⟩; simp; done)
        · exact absurd hg58 (by simp at hg58)
      · exact absurd hg54 (by simp at hg54)
    · exact absurd hg49 (by simp at hg49)
  · exact absurd hc0 (by simp at hc0)

set_option maxHeartbeats 4000000 in
set_option maxRecDepth 100000 in
theorem colsbad31_vp (hm : (1, marksC) ∈ G) (hw : (0, wordsC) ∈ G) (ht : (2, typesC) ∈ G) (a : Int) (a1 : -9223372036854775808 ≤ a) (a2 : a ≤ 9223372036854775807) (c : Int) (c1 : -9223372036854775808 ≤ c) (c2 : c ≤ 9223372036854775807) (hj : pickedF a 4 = 3) (hk : pickedF c 3 = 1) : VP Tryd.prog G 12 [.v (.int .i64 a), .v (.int .i64 c)] (.v (.bool true)) := by
  refine VC.body Tryd.func12 rfl Tryd.ntmps12 (Nat.le_of_ble_eq_true rfl) fun X0 w0 S00 => ?_
  have hmx : maxLen = 9223372036854775807 := rfl
  have hbad : colsF [⟨⟨#[105, 100]⟩, 2⟩, ⟨⟨#[110]⟩, 2⟩, ⟨⟨#[115]⟩, 3⟩, ⟨⟨#[105, 100]⟩, 1⟩] = 9 := by simp [colsF, colsA, colF, nm_id, nm_n, nm_s, nm_b, nm_sel, str_list]
  have hsz : ∀ c ∈ ([⟨⟨#[105, 100]⟩, 2⟩, ⟨⟨#[110]⟩, 2⟩, ⟨⟨#[115]⟩, 3⟩, ⟨⟨#[105, 100]⟩, 1⟩] : List ColL), c.n.size ≤ maxLen := cols_sz6 (fun c hc => by simp only [List.mem_cons, List.not_mem_nil, or_false] at hc; rcases hc with rfl | rfl | rfl | rfl <;> exact Nat.le_of_ble_eq_true rfl)
  have hkd := Kind_vp hm hw ht [⟨⟨#[105, 100]⟩, 2⟩, ⟨⟨#[110]⟩, 2⟩, ⟨⟨#[115]⟩, 3⟩, ⟨⟨#[105, 100]⟩, 1⟩] (by decide) hsz (by rw [hbad]; decide) [(⟨1, noVl, ⟨#[]⟩⟩ : OpL)]
  have hcb := Cols_vp hm hw ht [⟨⟨#[105, 100]⟩, 2⟩, ⟨⟨#[110]⟩, 2⟩, ⟨⟨#[115]⟩, 3⟩, ⟨⟨#[105, 100]⟩, 1⟩] (by decide) hsz
  rw [hbad] at hkd hcb
  have hc0 := Cols_vp hm hw ht [] (Nat.zero_le _) (fun c hc => by cases hc)
  rw [cols_none] at hc0
  have hcg := Cols_vp hm hw ht colsL (by decide) cols_sz
  rw [cols_ok] at hcg
  have hpa := picked_vp G a 4 a1 a2 (by decide)
  rw [hj] at hpa
  have hpc := picked_vp G c 3 c1 c2 (by decide)
  rw [hk] at hpc
  have hcn := hc0
  clear hc0
  refine CD.seq ?_
  refine CD.region ?_
  refine OD.still (wants_plain rfl) rfl (still_as rfl opd_const) ?_
  refine OD.wk (Wk.as_ (n := 63) (l' := [(0, _), (1, _)]) (S' := []) rfl rfl ⟨lk, lk, trivial⟩) ?_
  refine OD.nil ?_
  refine CD.seq ?_
  refine CD.region ?_
  refine OD.call (wants_plain rfl) rfl rfl rfl Tryd.call24 colsOf_vc trivial (perm_none _) ?_; rintro _ _ ⟨b10, rfl, rfl⟩
  refine OD.still (wants_plain rfl) rfl (still_as rfl ot) ?_
  refine OD.wk (Wk.as_ (n := 63) (l' := [(0, _), (1, _), (5, _)]) (S' := [⟨b10, 61, 8, [_, _, _, _, _, _, _, _]⟩]) rfl rfl ⟨lk, lk, lk, trivial⟩) ?_
  refine OD.nil ?_
  refine CD.seq ?_
  refine CD.region ?_
  refine OD.still (wants_plain rfl) rfl (still_mv rfl ot) ?_
  refine OD.callP (wants_plain rfl) rfl rfl rfl Tryd.call15 (hpa) ⟨ot, opd_const, trivial⟩ ?_
  refine OD.still (wants_plain rfl) rfl (still_as rfl ot) ?_
  refine OD.wk (Wk.as_ (n := 63) (l' := [(1, _), (5, _), (6, _)]) (S' := [⟨b10, 61, 8, [_, _, _, _, _, _, _, _]⟩]) rfl rfl ⟨lk, lk, lk, trivial⟩) ?_
  refine OD.nil ?_
  refine CD.seq ?_
  refine CD.region ?_
  refine OD.still (wants_plain rfl) rfl (still_as rfl opd_const) ?_
  refine OD.wk (Wk.as_ (n := 63) (l' := [(1, _), (5, _), (6, _), (7, _)]) (S' := [⟨b10, 61, 8, [_, _, _, _, _, _, _, _]⟩]) rfl rfl ⟨lk, lk, lk, lk, trivial⟩) ?_
  refine OD.nil ?_
  refine CD.seq ?_
  refine CD.seq ?_
  refine CD.region ?_
  refine OD.still (wants_plain rfl) rfl (still_mv rfl ot) ?_
  refine OD.callP (wants_plain rfl) rfl rfl rfl Tryd.call15 (hpc) ⟨ot, opd_const, trivial⟩ ?_
  refine OD.wk (Wk.as_ (n := 63) (l' := [(5, _), (6, _), (7, _), (14, _)]) (S' := [⟨b10, 61, 8, [_, _, _, _, _, _, _, _]⟩]) rfl rfl ⟨lk, lk, lk, lk, trivial⟩) ?_
  refine OD.nil ?_
  refine CD.block ?_
  refine CD.seq ?_
  refine CD.region ?_
  refine OD.still (wants_plain rfl) rfl (still_bin rfl ot opd_const bin_eql) ?_
  refine OD.still (wants_plain rfl) rfl (still_as rfl ot) ?_
  refine OD.wk (Wk.as_ (n := 63) (l' := [(5, _), (6, _), (7, _), (14, _), (19, _)]) (S' := [⟨b10, 61, 8, [_, _, _, _, _, _, _, _]⟩]) rfl rfl ⟨lk, lk, lk, lk, lk, trivial⟩) ?_
  refine OD.nil ?_
  refine CD.cond ot (fun hc0 => ?_) (fun hc0 => ?_)
  · exact absurd hc0 (by simp at hc0)
  · have hc0' := hc0
    (try simp only [decide_eq_true_eq, decide_eq_false_iff_not, beq_iff_eq, bne_iff_ne, Bool.not_eq_true', Bool.not_eq_false', Bool.not_eq_true, Bool.not_eq_false, beq_eq_false_iff_ne, ne_eq, bne_eq_false_iff_eq, Bool.and_eq_true, Bool.or_eq_true, Bool.not_not, Bool.and_eq_false_iff, Bool.or_eq_false_iff, Int.not_lt, Int.not_le] at hc0')
    refine CD.seq ?_
    refine CD.region ?_
    refine OD.still (wants_plain rfl) rfl (still_bin rfl ot opd_const bin_eql) ?_
    refine OD.still (wants_plain rfl) rfl (still_as rfl ot) ?_
    refine OD.wk (Wk.as_ (n := 63) (l' := [(5, _), (6, _), (25, _)]) (S' := [⟨b10, 61, 8, [_, _, _, _, _, _, _, _]⟩]) rfl rfl ⟨lk, lk, lk, trivial⟩) ?_
    refine OD.nil ?_
    refine CD.cond ot (fun hc1 => ?_) (fun hc1 => ?_)
    · have hc1' := hc1
      (try simp only [decide_eq_true_eq, decide_eq_false_iff_not, beq_iff_eq, bne_iff_ne, Bool.not_eq_true', Bool.not_eq_false', Bool.not_eq_true, Bool.not_eq_false, beq_eq_false_iff_ne, ne_eq, bne_eq_false_iff_eq, Bool.and_eq_true, Bool.or_eq_true, Bool.not_not, Bool.and_eq_false_iff, Bool.or_eq_false_iff, Int.not_lt, Int.not_le] at hc1')
      refine CD.seq ?_
      refine CD.region ?_
      refine OD.still (wants_plain rfl) rfl (still_mv rfl ot) ?_
      refine OD.still (wants_plain rfl) rfl (still_mv rfl ot) ?_
      refine OD.still (wants_plain rfl) rfl (still_mv rfl ot) ?_
      refine OD.still (wants_plain rfl) rfl (still_mv rfl ot) ?_
      refine OD.still (wants_plain rfl) rfl (still_bin rfl ot opd_const (bin_add (wrap_i64 (by omega) (by omega)))) ?_
      refine OD.still (wants_plain rfl) rfl (still_bin (r := .int .i64 0) rfl ot opd_const (bin_rem (show (4 : Int) ≠ 0 by decide))) ?_
      refine OD.still (wants_plain rfl) rfl (still_r2 (mk := Op.indexAddr 56) rfl ot ot (by first | exact ix_list Tryd.runUnderlying56 Tryd.sizeOf61 rfl (by first | assumption | omega) | exact ix_list (j := Int.toNat _) Tryd.runUnderlying56 Tryd.sizeOf61 (Int.toNat_of_nonneg (by omega)).symm (by omega) | exact ix_row Tryd.runUnderlying56 Tryd.sizeOf61 rfl (by first | assumption | omega) | exact ix_row (j := Int.toNat _) Tryd.runUnderlying56 Tryd.sizeOf61 (Int.toNat_of_nonneg (by omega)).symm (by omega))) ?_
      refine OD.still (wants_plain rfl) rfl (still_r1 (mk := fun y => Op.fieldAddr 61 y 0) rfl ot (by first | exact fa_ptr (off := 0) Tryd.runUnderlying61 rfl Tryd.sizeOf9 rfl | exact fa_iptr (off := 0) Tryd.runUnderlying61 rfl Tryd.sizeOf9 rfl)) ?_
      refine OD.still (wants_plain rfl) rfl (still_r1 (mk := Op.load 9) rfl ot (by first | exact ld_blk (k := 0) rfl rfl Tryd.isAgg9 rfl | exact ld_fm cC_len Tryd.isAgg9 (by first | assumption | omega) rfl | exact ld_fm0 cC_len Tryd.isAgg9 (by first | assumption | omega) rfl | exact ld_row (k := 0) cC_len rfl rfl rfl Tryd.isAgg9 (by first | assumption | omega) rfl | exact ld_row0 (k := 0) cC_len rfl rfl rfl Tryd.isAgg9 (by first | assumption | omega) rfl | exact ld_i Tryd.isAgg9 rfl)) ?_
      refine OD.still (wants_plain rfl) rfl (still_r2 (mk := Op.indexAddr 56) rfl ot ot (by first | exact ix_list Tryd.runUnderlying56 Tryd.sizeOf61 rfl (by first | assumption | omega) | exact ix_list (j := Int.toNat _) Tryd.runUnderlying56 Tryd.sizeOf61 (Int.toNat_of_nonneg (by omega)).symm (by omega) | exact ix_row Tryd.runUnderlying56 Tryd.sizeOf61 rfl (by first | assumption | omega) | exact ix_row (j := Int.toNat _) Tryd.runUnderlying56 Tryd.sizeOf61 (Int.toNat_of_nonneg (by omega)).symm (by omega))) ?_
      refine OD.still (wants_plain rfl) rfl (still_r1 (mk := fun y => Op.fieldAddr 61 y 0) rfl ot (by first | exact fa_ptr (off := 0) Tryd.runUnderlying61 rfl Tryd.sizeOf9 rfl | exact fa_iptr (off := 0) Tryd.runUnderlying61 rfl Tryd.sizeOf9 rfl)) ?_
      refine OD.storeAt (k := 0) (cs' := [⟨⟨#[105, 100]⟩, 2⟩, ⟨⟨#[110]⟩, 2⟩, ⟨⟨#[115]⟩, 3⟩, ⟨⟨#[105, 100]⟩, 1⟩].flatMap cC) (wants_plain rfl) rfl rfl ot rfl rfl ot rfl rfl Tryd.sizeOf9 rfl (Nat.le_of_ble_eq_true rfl) rfl ?_
      refine OD.wk (Wk.as_ (n := 63) (l' := [(5, _)]) (S' := [⟨b10, 61, 8, [_, _, _, _, _, _, _, _]⟩]) rfl rfl ⟨lk, trivial⟩) ?_
      refine OD.nil ?_
      refine CD.region ?_
      refine OD.still (wants_plain rfl) rfl (still_as rfl opd_const) ?_
      refine OD.wk (Wk.as_ (n := 63) (l' := [(5, _), (7, _)]) (S' := [⟨b10, 61, 8, [_, _, _, _, _, _, _, _]⟩]) rfl rfl ⟨lk, lk, trivial⟩) ?_
      refine OD.nil ?_
      refine CD.seq ?_
      refine CD.region ?_
      refine OD.still (wants_plain rfl) rfl (still_mv rfl ot) ?_
      refine OD.still (wants_plain rfl) rfl (still_bld (pl := [(0, _)]) (ds := [_, _, _, _, _]) rfl Tryd.zeroValue52 Tryd.runUnderlying52 places52_Pc7 ⟨rfl, opd_const, trivial⟩ rfl rfl) ?_
      refine OD.bldS (pl := [(0, _)]) (zvs := [.int .i64 0, .int .i64 0, .int .i64 0, .string ⟨#[]⟩, .string ⟨#[]⟩]) (ds := [_, _, _, _, _]) (wants_plain rfl) rfl rfl Tryd.zeroValue52 Tryd.runUnderlying48 Tryd.sizeOf52 rfl rfl (by kernel_rfl) ⟨rfl, ot, trivial⟩ rfl rfl (fun b41 => ?_)
      refine OD.perm (perm_q11 (S1 := [⟨b41, 52, 1 * 5, List.flatMap cO ([(⟨1, noVl, ⟨#[]⟩⟩ : OpL)])⟩]) (A := [_])) ?_
      refine OD.giveL (t := 41) (Sq := [⟨b41, 52, 1 * 5, List.flatMap cO ([(⟨1, noVl, ⟨#[]⟩⟩ : OpL)])⟩]) lk (ownL_row (g := cO) (sz := 5) (e := 52) (ls := [(⟨1, noVl, ⟨#[]⟩⟩ : OpL)]) (Nat.le_refl _) (show 1 ≤ maxLen by decide)) (fm_len cO_len _) (perm_r11 (A := [_])) ?_
      refine OD.look (wants_plain rfl) rfl rfl rfl Tryd.call25 (hkd) rfl ⟨⟨_, ot, (view_row (k := 0) (cs := [⟨⟨#[105, 100]⟩, 2⟩, ⟨⟨#[110]⟩, 2⟩, ⟨⟨#[115]⟩, 3⟩, ⟨⟨#[105, 100]⟩, 1⟩].flatMap cC) rfl rfl rfl rfl (Nat.le_refl _) (show 4 ≤ maxLen by decide))⟩, ⟨_, ot, view_same⟩, trivial⟩ ?_
      refine OD.still (wants_plain rfl) rfl (still_mv rfl ot) ?_
      refine OD.still (wants_plain rfl) rfl (still_extract rfl ot rfl) ?_
      refine OD.still (wants_plain rfl) rfl (still_extract rfl ot rfl) ?_
      refine OD.still (wants_plain rfl) rfl (still_as rfl ot) ?_
      refine OD.still (wants_plain rfl) rfl (still_as rfl ot) ?_
      refine OD.wk (Wk.as_ (n := 63) (l' := [(5, _), (7, _), (9, _)]) (S' := [⟨b10, 61, 8, [_, _, _, _, _, _, _, _]⟩]) rfl rfl ⟨lk, lk, lk, trivial⟩) ?_
      refine OD.nil ?_
      refine CD.seq ?_
      refine CD.region ?_
      refine OD.still (wants_plain rfl) rfl (still_mv rfl ot) ?_
      refine OD.look (wants_plain rfl) rfl rfl rfl Tryd.call26 (hcb) rfl ⟨⟨_, ot, (view_row (k := 0) (cs := [⟨⟨#[105, 100]⟩, 2⟩, ⟨⟨#[110]⟩, 2⟩, ⟨⟨#[115]⟩, 3⟩, ⟨⟨#[105, 100]⟩, 1⟩].flatMap cC) rfl rfl rfl rfl (Nat.le_refl _) (show 4 ≤ maxLen by decide))⟩, trivial⟩ ?_
      refine OD.still (wants_plain rfl) rfl (still_mv rfl ot) ?_
      refine OD.still (wants_plain rfl) rfl (still_bin rfl ot ot bin_eql) ?_
      refine OD.still (wants_plain rfl) rfl (still_mv rfl ot) ?_
      refine OD.split (t := 49) lk (fun hg49 => ?_) (fun hg49 => ?_)
      · have hg49' := hg49; (try simp only [decide_eq_true_eq, decide_eq_false_iff_not, beq_iff_eq, bne_iff_ne, Bool.not_eq_true', Bool.not_eq_false', Bool.not_eq_true, Bool.not_eq_false, beq_eq_false_iff_ne, ne_eq, bne_eq_false_iff_eq, Bool.and_eq_true, Bool.or_eq_true, Bool.not_not] at hg49')
        refine OD.still (wants_T rfl rfl rfl lk (by first | rfl | assumption)) rfl (still_mv rfl ot) ?_
        refine OD.still (wants_T rfl rfl rfl lk (by first | rfl | assumption)) rfl (still_mv rfl ot) ?_
        refine OD.still (wants_T rfl rfl rfl lk (by first | rfl | assumption)) rfl (still_bin rfl ot ot bin_eql) ?_
        refine OD.still (wants_plain rfl) rfl (still_pickT rfl ot (by first | rfl | assumption) ot) ?_
        refine OD.still (wants_plain rfl) rfl (still_mv rfl ot) ?_
        refine OD.split (t := 54) lk (fun hg54 => ?_) (fun hg54 => ?_)
        · have hg54' := hg54; (try simp only [decide_eq_true_eq, decide_eq_false_iff_not, beq_iff_eq, bne_iff_ne, Bool.not_eq_true', Bool.not_eq_false', Bool.not_eq_true, Bool.not_eq_false, beq_eq_false_iff_ne, ne_eq, bne_eq_false_iff_eq, Bool.and_eq_true, Bool.or_eq_true, Bool.not_not] at hg54')
          refine OD.look (wants_T rfl rfl rfl lk (by first | rfl | assumption)) rfl rfl rfl Tryd.call26 (hcn) rfl ⟨⟨_, opd_const, view_nil⟩, trivial⟩ ?_
          refine OD.still (wants_T rfl rfl rfl lk (by first | rfl | assumption)) rfl (still_bin rfl ot opd_const bin_eql) ?_
          refine OD.still (wants_plain rfl) rfl (still_pickT rfl ot (by first | rfl | assumption) ot) ?_
          refine OD.still (wants_plain rfl) rfl (still_mv rfl ot) ?_
          refine OD.split (t := 58) lk (fun hg58 => ?_) (fun hg58 => ?_)
          · have hg58' := hg58; (try simp only [decide_eq_true_eq, decide_eq_false_iff_not, beq_iff_eq, bne_iff_ne, Bool.not_eq_true', Bool.not_eq_false', Bool.not_eq_true, Bool.not_eq_false, beq_eq_false_iff_ne, ne_eq, bne_eq_false_iff_eq, Bool.and_eq_true, Bool.or_eq_true, Bool.not_not] at hg58')
            refine OD.callP (wants_T rfl rfl rfl lk (by first | rfl | assumption)) rfl rfl rfl Tryd.call24 (colsOf_vp) trivial ?_
            refine OD.callP (wants_T rfl rfl rfl lk (by first | rfl | assumption)) rfl rfl rfl Tryd.call26 (hcg) ⟨ot, trivial⟩ ?_
            refine OD.still (wants_T rfl rfl rfl lk (by first | rfl | assumption)) rfl (still_bin rfl ot opd_const bin_eql) ?_
            refine OD.still (wants_plain rfl) rfl (still_pickT rfl ot (by first | rfl | assumption) ot) ?_
            refine OD.still (wants_plain rfl) rfl (still_as rfl ot) ?_
            refine OD.wk (Wk.as_ (n := 63) (l' := [(4, _)]) (S' := [⟨b10, 61, 8, [_, _, _, _, _, _, _, _]⟩]) rfl rfl ⟨lk, trivial⟩) ?_
            refine OD.nil ?_
            refine CD.ret ?_
            refine ⟨.inr rfl, _, [], List.nil_sublist _, ret_one Tryd.results12 (res_tmp (Nat.le_of_ble_eq_true rfl) lk), ?_⟩
            first | exact ⟨rfl, rfl⟩ | (refine ⟨vb ?_, rfl⟩; simp; done)
          · exact absurd hg58 (by simp at hg58)
        · exact absurd hg54 (by simp at hg54)
      · exact absurd hg49 (by simp at hg49)
    · exact absurd hc1 (by simp at hc1)

set_option maxHeartbeats 4000000 in
set_option maxRecDepth 100000 in
theorem colsbad32_vp (hm : (1, marksC) ∈ G) (hw : (0, wordsC) ∈ G) (ht : (2, typesC) ∈ G) (a : Int) (a1 : -9223372036854775808 ≤ a) (a2 : a ≤ 9223372036854775807) (c : Int) (c1 : -9223372036854775808 ≤ c) (c2 : c ≤ 9223372036854775807) (hj : pickedF a 4 = 3) (hk : pickedF c 3 = 2) : VP Tryd.prog G 12 [.v (.int .i64 a), .v (.int .i64 c)] (.v (.bool true)) := by
  refine VC.body Tryd.func12 rfl Tryd.ntmps12 (Nat.le_of_ble_eq_true rfl) fun X0 w0 S00 => ?_
  have hmx : maxLen = 9223372036854775807 := rfl
  have hbad : colsF [⟨⟨#[105, 100]⟩, 2⟩, ⟨⟨#[110]⟩, 2⟩, ⟨⟨#[115]⟩, 3⟩, ⟨⟨#[83, 69, 76, 69, 67, 84]⟩, 1⟩] = 6 := by simp [colsF, colsA, colF, nm_id, nm_n, nm_s, nm_b, nm_sel, str_list]
  have hsz : ∀ c ∈ ([⟨⟨#[105, 100]⟩, 2⟩, ⟨⟨#[110]⟩, 2⟩, ⟨⟨#[115]⟩, 3⟩, ⟨⟨#[83, 69, 76, 69, 67, 84]⟩, 1⟩] : List ColL), c.n.size ≤ maxLen := cols_sz6 (fun c hc => by simp only [List.mem_cons, List.not_mem_nil, or_false] at hc; rcases hc with rfl | rfl | rfl | rfl <;> exact Nat.le_of_ble_eq_true rfl)
  have hkd := Kind_vp hm hw ht [⟨⟨#[105, 100]⟩, 2⟩, ⟨⟨#[110]⟩, 2⟩, ⟨⟨#[115]⟩, 3⟩, ⟨⟨#[83, 69, 76, 69, 67, 84]⟩, 1⟩] (by decide) hsz (by rw [hbad]; decide) [(⟨1, noVl, ⟨#[]⟩⟩ : OpL)]
  have hcb := Cols_vp hm hw ht [⟨⟨#[105, 100]⟩, 2⟩, ⟨⟨#[110]⟩, 2⟩, ⟨⟨#[115]⟩, 3⟩, ⟨⟨#[83, 69, 76, 69, 67, 84]⟩, 1⟩] (by decide) hsz
  rw [hbad] at hkd hcb
  have hc0 := Cols_vp hm hw ht [] (Nat.zero_le _) (fun c hc => by cases hc)
  rw [cols_none] at hc0
  have hcg := Cols_vp hm hw ht colsL (by decide) cols_sz
  rw [cols_ok] at hcg
  have hpa := picked_vp G a 4 a1 a2 (by decide)
  rw [hj] at hpa
  have hpc := picked_vp G c 3 c1 c2 (by decide)
  rw [hk] at hpc
  have hcn := hc0
  clear hc0
  refine CD.seq ?_
  refine CD.region ?_
  refine OD.still (wants_plain rfl) rfl (still_as rfl opd_const) ?_
  refine OD.wk (Wk.as_ (n := 63) (l' := [(0, _), (1, _)]) (S' := []) rfl rfl ⟨lk, lk, trivial⟩) ?_
  refine OD.nil ?_
  refine CD.seq ?_
  refine CD.region ?_
  refine OD.call (wants_plain rfl) rfl rfl rfl Tryd.call24 colsOf_vc trivial (perm_none _) ?_; rintro _ _ ⟨b10, rfl, rfl⟩
  refine OD.still (wants_plain rfl) rfl (still_as rfl ot) ?_
  refine OD.wk (Wk.as_ (n := 63) (l' := [(0, _), (1, _), (5, _)]) (S' := [⟨b10, 61, 8, [_, _, _, _, _, _, _, _]⟩]) rfl rfl ⟨lk, lk, lk, trivial⟩) ?_
  refine OD.nil ?_
  refine CD.seq ?_
  refine CD.region ?_
  refine OD.still (wants_plain rfl) rfl (still_mv rfl ot) ?_
  refine OD.callP (wants_plain rfl) rfl rfl rfl Tryd.call15 (hpa) ⟨ot, opd_const, trivial⟩ ?_
  refine OD.still (wants_plain rfl) rfl (still_as rfl ot) ?_
  refine OD.wk (Wk.as_ (n := 63) (l' := [(1, _), (5, _), (6, _)]) (S' := [⟨b10, 61, 8, [_, _, _, _, _, _, _, _]⟩]) rfl rfl ⟨lk, lk, lk, trivial⟩) ?_
  refine OD.nil ?_
  refine CD.seq ?_
  refine CD.region ?_
  refine OD.still (wants_plain rfl) rfl (still_as rfl opd_const) ?_
  refine OD.wk (Wk.as_ (n := 63) (l' := [(1, _), (5, _), (6, _), (7, _)]) (S' := [⟨b10, 61, 8, [_, _, _, _, _, _, _, _]⟩]) rfl rfl ⟨lk, lk, lk, lk, trivial⟩) ?_
  refine OD.nil ?_
  refine CD.seq ?_
  refine CD.seq ?_
  refine CD.region ?_
  refine OD.still (wants_plain rfl) rfl (still_mv rfl ot) ?_
  refine OD.callP (wants_plain rfl) rfl rfl rfl Tryd.call15 (hpc) ⟨ot, opd_const, trivial⟩ ?_
  refine OD.wk (Wk.as_ (n := 63) (l' := [(5, _), (6, _), (7, _), (14, _)]) (S' := [⟨b10, 61, 8, [_, _, _, _, _, _, _, _]⟩]) rfl rfl ⟨lk, lk, lk, lk, trivial⟩) ?_
  refine OD.nil ?_
  refine CD.block ?_
  refine CD.seq ?_
  refine CD.region ?_
  refine OD.still (wants_plain rfl) rfl (still_bin rfl ot opd_const bin_eql) ?_
  refine OD.still (wants_plain rfl) rfl (still_as rfl ot) ?_
  refine OD.wk (Wk.as_ (n := 63) (l' := [(5, _), (6, _), (7, _), (14, _), (19, _)]) (S' := [⟨b10, 61, 8, [_, _, _, _, _, _, _, _]⟩]) rfl rfl ⟨lk, lk, lk, lk, lk, trivial⟩) ?_
  refine OD.nil ?_
  refine CD.cond ot (fun hc0 => ?_) (fun hc0 => ?_)
  · exact absurd hc0 (by simp at hc0)
  · have hc0' := hc0
    (try simp only [decide_eq_true_eq, decide_eq_false_iff_not, beq_iff_eq, bne_iff_ne, Bool.not_eq_true', Bool.not_eq_false', Bool.not_eq_true, Bool.not_eq_false, beq_eq_false_iff_ne, ne_eq, bne_eq_false_iff_eq, Bool.and_eq_true, Bool.or_eq_true, Bool.not_not, Bool.and_eq_false_iff, Bool.or_eq_false_iff, Int.not_lt, Int.not_le] at hc0')
    refine CD.seq ?_
    refine CD.region ?_
    refine OD.still (wants_plain rfl) rfl (still_bin rfl ot opd_const bin_eql) ?_
    refine OD.still (wants_plain rfl) rfl (still_as rfl ot) ?_
    refine OD.wk (Wk.as_ (n := 63) (l' := [(5, _), (6, _), (25, _)]) (S' := [⟨b10, 61, 8, [_, _, _, _, _, _, _, _]⟩]) rfl rfl ⟨lk, lk, lk, trivial⟩) ?_
    refine OD.nil ?_
    refine CD.cond ot (fun hc1 => ?_) (fun hc1 => ?_)
    · exact absurd hc1 (by simp at hc1)
    · have hc1' := hc1
      (try simp only [decide_eq_true_eq, decide_eq_false_iff_not, beq_iff_eq, bne_iff_ne, Bool.not_eq_true', Bool.not_eq_false', Bool.not_eq_true, Bool.not_eq_false, beq_eq_false_iff_ne, ne_eq, bne_eq_false_iff_eq, Bool.and_eq_true, Bool.or_eq_true, Bool.not_not, Bool.and_eq_false_iff, Bool.or_eq_false_iff, Int.not_lt, Int.not_le] at hc1')
      refine CD.seq ?_
      refine CD.region ?_
      refine OD.still (wants_plain rfl) rfl (still_mv rfl ot) ?_
      refine OD.still (wants_plain rfl) rfl (still_mv rfl ot) ?_
      refine OD.still (wants_plain rfl) rfl (still_r2 (mk := Op.indexAddr 56) rfl ot ot (by first | exact ix_list Tryd.runUnderlying56 Tryd.sizeOf61 rfl (by first | assumption | omega) | exact ix_list (j := Int.toNat _) Tryd.runUnderlying56 Tryd.sizeOf61 (Int.toNat_of_nonneg (by omega)).symm (by omega) | exact ix_row Tryd.runUnderlying56 Tryd.sizeOf61 rfl (by first | assumption | omega) | exact ix_row (j := Int.toNat _) Tryd.runUnderlying56 Tryd.sizeOf61 (Int.toNat_of_nonneg (by omega)).symm (by omega))) ?_
      refine OD.still (wants_plain rfl) rfl (still_r1 (mk := fun y => Op.fieldAddr 61 y 0) rfl ot (by first | exact fa_ptr (off := 0) Tryd.runUnderlying61 rfl Tryd.sizeOf9 rfl | exact fa_iptr (off := 0) Tryd.runUnderlying61 rfl Tryd.sizeOf9 rfl)) ?_
      refine OD.storeAt (k := 0) (cs' := [⟨⟨#[105, 100]⟩, 2⟩, ⟨⟨#[110]⟩, 2⟩, ⟨⟨#[115]⟩, 3⟩, ⟨⟨#[83, 69, 76, 69, 67, 84]⟩, 1⟩].flatMap cC) (wants_plain rfl) rfl rfl ot rfl rfl opd_const rfl rfl Tryd.sizeOf9 rfl (Nat.le_of_ble_eq_true rfl) rfl ?_
      refine OD.wk (Wk.as_ (n := 63) (l' := [(5, _)]) (S' := [⟨b10, 61, 8, [_, _, _, _, _, _, _, _]⟩]) rfl rfl ⟨lk, trivial⟩) ?_
      refine OD.nil ?_
      refine CD.region ?_
      refine OD.still (wants_plain rfl) rfl (still_as rfl opd_const) ?_
      refine OD.wk (Wk.as_ (n := 63) (l' := [(5, _), (7, _)]) (S' := [⟨b10, 61, 8, [_, _, _, _, _, _, _, _]⟩]) rfl rfl ⟨lk, lk, trivial⟩) ?_
      refine OD.nil ?_
      refine CD.seq ?_
      refine CD.region ?_
      refine OD.still (wants_plain rfl) rfl (still_mv rfl ot) ?_
      refine OD.still (wants_plain rfl) rfl (still_bld (pl := [(0, _)]) (ds := [_, _, _, _, _]) rfl Tryd.zeroValue52 Tryd.runUnderlying52 places52_Pc7 ⟨rfl, opd_const, trivial⟩ rfl rfl) ?_
      refine OD.bldS (pl := [(0, _)]) (zvs := [.int .i64 0, .int .i64 0, .int .i64 0, .string ⟨#[]⟩, .string ⟨#[]⟩]) (ds := [_, _, _, _, _]) (wants_plain rfl) rfl rfl Tryd.zeroValue52 Tryd.runUnderlying48 Tryd.sizeOf52 rfl rfl (by kernel_rfl) ⟨rfl, ot, trivial⟩ rfl rfl (fun b41 => ?_)
      refine OD.perm (perm_q11 (S1 := [⟨b41, 52, 1 * 5, List.flatMap cO ([(⟨1, noVl, ⟨#[]⟩⟩ : OpL)])⟩]) (A := [_])) ?_
      refine OD.giveL (t := 41) (Sq := [⟨b41, 52, 1 * 5, List.flatMap cO ([(⟨1, noVl, ⟨#[]⟩⟩ : OpL)])⟩]) lk (ownL_row (g := cO) (sz := 5) (e := 52) (ls := [(⟨1, noVl, ⟨#[]⟩⟩ : OpL)]) (Nat.le_refl _) (show 1 ≤ maxLen by decide)) (fm_len cO_len _) (perm_r11 (A := [_])) ?_
      refine OD.look (wants_plain rfl) rfl rfl rfl Tryd.call25 (hkd) rfl ⟨⟨_, ot, (view_row (k := 0) (cs := [⟨⟨#[105, 100]⟩, 2⟩, ⟨⟨#[110]⟩, 2⟩, ⟨⟨#[115]⟩, 3⟩, ⟨⟨#[83, 69, 76, 69, 67, 84]⟩, 1⟩].flatMap cC) rfl rfl rfl rfl (Nat.le_refl _) (show 4 ≤ maxLen by decide))⟩, ⟨_, ot, view_same⟩, trivial⟩ ?_
      refine OD.still (wants_plain rfl) rfl (still_mv rfl ot) ?_
      refine OD.still (wants_plain rfl) rfl (still_extract rfl ot rfl) ?_
      refine OD.still (wants_plain rfl) rfl (still_extract rfl ot rfl) ?_
      refine OD.still (wants_plain rfl) rfl (still_as rfl ot) ?_
      refine OD.still (wants_plain rfl) rfl (still_as rfl ot) ?_
      refine OD.wk (Wk.as_ (n := 63) (l' := [(5, _), (7, _), (9, _)]) (S' := [⟨b10, 61, 8, [_, _, _, _, _, _, _, _]⟩]) rfl rfl ⟨lk, lk, lk, trivial⟩) ?_
      refine OD.nil ?_
      refine CD.seq ?_
      refine CD.region ?_
      refine OD.still (wants_plain rfl) rfl (still_mv rfl ot) ?_
      refine OD.look (wants_plain rfl) rfl rfl rfl Tryd.call26 (hcb) rfl ⟨⟨_, ot, (view_row (k := 0) (cs := [⟨⟨#[105, 100]⟩, 2⟩, ⟨⟨#[110]⟩, 2⟩, ⟨⟨#[115]⟩, 3⟩, ⟨⟨#[83, 69, 76, 69, 67, 84]⟩, 1⟩].flatMap cC) rfl rfl rfl rfl (Nat.le_refl _) (show 4 ≤ maxLen by decide))⟩, trivial⟩ ?_
      refine OD.still (wants_plain rfl) rfl (still_mv rfl ot) ?_
      refine OD.still (wants_plain rfl) rfl (still_bin rfl ot ot bin_eql) ?_
      refine OD.still (wants_plain rfl) rfl (still_mv rfl ot) ?_
      refine OD.split (t := 49) lk (fun hg49 => ?_) (fun hg49 => ?_)
      · have hg49' := hg49; (try simp only [decide_eq_true_eq, decide_eq_false_iff_not, beq_iff_eq, bne_iff_ne, Bool.not_eq_true', Bool.not_eq_false', Bool.not_eq_true, Bool.not_eq_false, beq_eq_false_iff_ne, ne_eq, bne_eq_false_iff_eq, Bool.and_eq_true, Bool.or_eq_true, Bool.not_not] at hg49')
        refine OD.still (wants_T rfl rfl rfl lk (by first | rfl | assumption)) rfl (still_mv rfl ot) ?_
        refine OD.still (wants_T rfl rfl rfl lk (by first | rfl | assumption)) rfl (still_mv rfl ot) ?_
        refine OD.still (wants_T rfl rfl rfl lk (by first | rfl | assumption)) rfl (still_bin rfl ot ot bin_eql) ?_
        refine OD.still (wants_plain rfl) rfl (still_pickT rfl ot (by first | rfl | assumption) ot) ?_
        refine OD.still (wants_plain rfl) rfl (still_mv rfl ot) ?_
        refine OD.split (t := 54) lk (fun hg54 => ?_) (fun hg54 => ?_)
        · have hg54' := hg54; (try simp only [decide_eq_true_eq, decide_eq_false_iff_not, beq_iff_eq, bne_iff_ne, Bool.not_eq_true', Bool.not_eq_false', Bool.not_eq_true, Bool.not_eq_false, beq_eq_false_iff_ne, ne_eq, bne_eq_false_iff_eq, Bool.and_eq_true, Bool.or_eq_true, Bool.not_not] at hg54')
          refine OD.look (wants_T rfl rfl rfl lk (by first | rfl | assumption)) rfl rfl rfl Tryd.call26 (hcn) rfl ⟨⟨_, opd_const, view_nil⟩, trivial⟩ ?_
          refine OD.still (wants_T rfl rfl rfl lk (by first | rfl | assumption)) rfl (still_bin rfl ot opd_const bin_eql) ?_
          refine OD.still (wants_plain rfl) rfl (still_pickT rfl ot (by first | rfl | assumption) ot) ?_
          refine OD.still (wants_plain rfl) rfl (still_mv rfl ot) ?_
          refine OD.split (t := 58) lk (fun hg58 => ?_) (fun hg58 => ?_)
          · have hg58' := hg58; (try simp only [decide_eq_true_eq, decide_eq_false_iff_not, beq_iff_eq, bne_iff_ne, Bool.not_eq_true', Bool.not_eq_false', Bool.not_eq_true, Bool.not_eq_false, beq_eq_false_iff_ne, ne_eq, bne_eq_false_iff_eq, Bool.and_eq_true, Bool.or_eq_true, Bool.not_not] at hg58')
            refine OD.callP (wants_T rfl rfl rfl lk (by first | rfl | assumption)) rfl rfl rfl Tryd.call24 (colsOf_vp) trivial ?_
            refine OD.callP (wants_T rfl rfl rfl lk (by first | rfl | assumption)) rfl rfl rfl Tryd.call26 (hcg) ⟨ot, trivial⟩ ?_
            refine OD.still (wants_T rfl rfl rfl lk (by first | rfl | assumption)) rfl (still_bin rfl ot opd_const bin_eql) ?_
            refine OD.still (wants_plain rfl) rfl (still_pickT rfl ot (by first | rfl | assumption) ot) ?_
            refine OD.still (wants_plain rfl) rfl (still_as rfl ot) ?_
            refine OD.wk (Wk.as_ (n := 63) (l' := [(4, _)]) (S' := [⟨b10, 61, 8, [_, _, _, _, _, _, _, _]⟩]) rfl rfl ⟨lk, trivial⟩) ?_
            refine OD.nil ?_
            refine CD.ret ?_
            refine ⟨.inr rfl, _, [], List.nil_sublist _, ret_one Tryd.results12 (res_tmp (Nat.le_of_ble_eq_true rfl) lk), ?_⟩
            first | exact ⟨rfl, rfl⟩ | (refine ⟨vb ?_, rfl⟩; simp; done)
          · exact absurd hg58 (by simp at hg58)
        · exact absurd hg54 (by simp at hg54)
      · exact absurd hg49 (by simp at hg49)

theorem colsbad_vp (a : Int) (a1 : -9223372036854775808 ≤ a) (a2 : a ≤ 9223372036854775807) (c : Int) (c1 : -9223372036854775808 ≤ c) (c2 : c ≤ 9223372036854775807) : VP Tryd.prog TG 12 [.v (.int .i64 a), .v (.int .i64 c)] (.v (.bool true)) := by
  have h := pickedF_bd a (show (1 : Int) ≤ 4 by decide)
  have h' := pickedF_bd c (show (1 : Int) ≤ 3 by decide)
  have j4 : pickedF a 4 = 0 ∨ pickedF a 4 = 1 ∨ pickedF a 4 = 2 ∨ pickedF a 4 = 3 := by omega
  have k3 : pickedF c 3 = 0 ∨ pickedF c 3 = 1 ∨ pickedF c 3 = 2 := by omega
  rcases j4 with hj | hj | hj | hj
  · rcases k3 with hk | hk | hk
    · exact colsbad00_vp tg1 tg2 tg3 a a1 a2 c c1 c2 hj hk
    · exact colsbad01_vp tg1 tg2 tg3 a a1 a2 c c1 c2 hj hk
    · exact colsbad02_vp tg1 tg2 tg3 a a1 a2 c c1 c2 hj hk
  · rcases k3 with hk | hk | hk
    · exact colsbad10_vp tg1 tg2 tg3 a a1 a2 c c1 c2 hj hk
    · exact colsbad11_vp tg1 tg2 tg3 a a1 a2 c c1 c2 hj hk
    · exact colsbad12_vp tg1 tg2 tg3 a a1 a2 c c1 c2 hj hk
  · rcases k3 with hk | hk | hk
    · exact colsbad20_vp tg1 tg2 tg3 a a1 a2 c c1 c2 hj hk
    · exact colsbad21_vp tg1 tg2 tg3 a a1 a2 c c1 c2 hj hk
    · exact colsbad22_vp tg1 tg2 tg3 a a1 a2 c c1 c2 hj hk
  · rcases k3 with hk | hk | hk
    · exact colsbad30_vp tg1 tg2 tg3 a a1 a2 c c1 c2 hj hk
    · exact colsbad31_vp tg1 tg2 tg3 a a1 a2 c c1 c2 hj hk
    · exact colsbad32_vp tg1 tg2 tg3 a a1 a2 c c1 c2 hj hk
theorem walkColsBad (a : Int) (wa : (Lit.int .i64 a).wf = true) (c : Int) (wc : (Lit.int .i64 c).wf = true) (w : World) (h1 : MarksTab w) (h2 : WordsTab w) (h3 : TypesTab w) :
    Calls Tryd.prog 12 #[.int .i64 a, .int .i64 c] w fun e w' => e = .returned (.bool true) ∧ Below w.heap.size w w' :=
  (colsbad_vp a (wf_bd wa).1 (wf_bd wa).2 c (wf_bd wc).1 (wf_bd wc).2).runL (tg_ok h1 h2 h3) (vs := [.int .i64 a, .int .i64 c]) (RepL.vs w _ [_, _])

end Go.Proofs.YtoemmoeedhllfaaDoor.Pc
