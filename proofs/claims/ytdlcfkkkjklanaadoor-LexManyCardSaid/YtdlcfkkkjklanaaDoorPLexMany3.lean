/-
  What the proof of LexMany leans on, part 3 of 3: walks of the program's functions at the level of values, and plain facts of what they compute.
-/
import Derived.Test.YtdlcfkkkjklanaaDoorPLexMany2
namespace Go.Proofs.YtdlcfkkkjklanaaDoor.Bs
open Go.RowKit V
set_option linter.unusedVariables false
set_option linter.unusedSimpArgs false

theorem noEscape (u : Value) (w : World) : (callFunc 40 #[u]).run Tryd.prog w = .ok (.value u) w := by
  rw [run_callFunc_extern (P := Tryd.prog) (f := 40) Tryd.func40 (by kernel_rfl) (by kernel_rfl) (by kernel_rfl) (e := Extern.AbiNoEscape.same) (by kernel_rfl)]
  rfl
variable {G : List (Nat × List Value)}

set_option maxHeartbeats 4000000 in
set_option maxRecDepth 100000 in
theorem copy0_vc (b n cap : Nat) (ad : Option Addr) : VC Tryd.prog G 33 [.v (.pointer (some ⟨b, 0, none⟩))] [bldB 51 b none ad n cap] (fun r S => r = .tup [] ∧ S = [bldB 51 b (some ⟨b, 0, none⟩) ad n cap]) := by
  refine VC.body Tryd.func33 rfl Tryd.ntmps33 (Nat.le_of_ble_eq_true rfl) fun X0 w0 S00 => ?_
  unfold bldB
  refine CD.seq ?_
  refine CD.region ?_
  refine OD.still (wants_plain rfl) rfl (still_mv rfl ot) ?_
  refine OD.still (wants_plain rfl) rfl (still_r1 (mk := Op.nilCheck) rfl ot (by first | exact nc_ptr | exact nc_iptr)) ?_
  refine OD.still (wants_plain rfl) rfl (still_r1 (mk := fun y => Op.fieldAddr 51 y 0) rfl ot (by first | exact fa_ptr (off := 0) Tryd.runUnderlying51 rfl Tryd.sizeOf49 rfl | exact fa_iptr (off := 0) Tryd.runUnderlying51 rfl Tryd.sizeOf49 rfl)) ?_
  refine OD.still (wants_plain rfl) rfl (still_r1 (mk := Op.load 49) rfl ot (by first | exact ld_blk (k := 0) rfl rfl Tryd.isAgg49 rfl | exact ld_i Tryd.isAgg49 rfl)) ?_
  refine OD.still (wants_plain rfl) rfl (still_bin rfl ot opd_const (bin_ptrNil (by kernel_rfl))) ?_
  refine OD.wk (Wk.as_ (n := 20) (l' := [(0, _), (6, _)]) (S' := [⟨b, 51, 2, [_, _]⟩]) rfl rfl ⟨lk, lk, trivial⟩) ?_
  refine OD.nil ?_
  refine CD.cond ot (fun hc0 => ?_) (fun hc0 => ?_)
  · have hc0' := hc0
    (try simp only [decide_eq_true_eq, decide_eq_false_iff_not, beq_iff_eq, bne_iff_ne, Bool.not_eq_true', Bool.not_eq_false', Bool.not_eq_true, Bool.not_eq_false, beq_eq_false_iff_ne, ne_eq, bne_eq_false_iff_eq, Bool.and_eq_true, Bool.or_eq_true, Bool.not_not, Bool.and_eq_false_iff, Bool.or_eq_false_iff, Int.not_lt, Int.not_le] at hc0')
    refine CD.region ?_
    refine OD.still (wants_plain rfl) rfl (still_mv rfl ot) ?_
    refine OD.still (wants_plain rfl) rfl (still_mv rfl ot) ?_
    refine OD.still (wants_plain rfl) rfl (still_toUnsafe (k := 0) rfl ot rfl rfl Tryd.underlying49 Tryd.underlying69 (by kernel_rfl) (show 0 < 2 by decide)) ?_
    refine OD.still (wants_plain rfl) rfl (still_extern1 rfl ot (noEscape _)) ?_
    refine OD.still (wants_plain rfl) rfl (still_fromUnsafe (k := 0) rfl ot rfl rfl rfl rfl Tryd.underlying69 Tryd.underlying49 (by kernel_rfl) (by kernel_rfl)) ?_
    refine OD.still (wants_plain rfl) rfl (still_r1 (mk := Op.nilCheck) rfl ot (by first | exact nc_ptr | exact nc_iptr)) ?_
    refine OD.still (wants_plain rfl) rfl (still_r1 (mk := fun y => Op.fieldAddr 51 y 0) rfl ot (by first | exact fa_ptr (off := 0) Tryd.runUnderlying51 rfl Tryd.sizeOf49 rfl | exact fa_iptr (off := 0) Tryd.runUnderlying51 rfl Tryd.sizeOf49 rfl)) ?_
    refine OD.store (k := 0) (cs' := [_, _]) (wants_plain rfl) rfl rfl ot rfl rfl ot rfl rfl Tryd.sizeOf49 rfl rfl rfl ?_
    refine OD.wk (Wk.as_ (n := 20) (l' := []) (S' := [⟨b, 51, 2, [_, _]⟩]) rfl rfl trivial) ?_
    refine OD.nil ?_
    refine ⟨.inl rfl, _, [⟨b, 51, 2, [.v (.pointer (some ⟨b, 0, none⟩)), .v (.slice ad n cap)]⟩], (by repeat (first | exact List.Sublist.refl _ | apply List.Sublist.cons)), ret_none Tryd.results33 , ?_⟩
    exact ⟨rfl, rfl⟩
  · exact absurd hc0 (by simp)

set_option maxHeartbeats 4000000 in
set_option maxRecDepth 100000 in
theorem copy1_vc (b n cap : Nat) (ad : Option Addr) : VC Tryd.prog G 33 [.v (.pointer (some ⟨b, 0, none⟩))] [bldB 51 b (some ⟨b, 0, none⟩) ad n cap] (fun r S => r = .tup [] ∧ S = [bldB 51 b (some ⟨b, 0, none⟩) ad n cap]) := by
  refine VC.body Tryd.func33 rfl Tryd.ntmps33 (Nat.le_of_ble_eq_true rfl) fun X0 w0 S00 => ?_
  unfold bldB
  refine CD.seq ?_
  refine CD.region ?_
  refine OD.still (wants_plain rfl) rfl (still_mv rfl ot) ?_
  refine OD.still (wants_plain rfl) rfl (still_r1 (mk := Op.nilCheck) rfl ot (by first | exact nc_ptr | exact nc_iptr)) ?_
  refine OD.still (wants_plain rfl) rfl (still_r1 (mk := fun y => Op.fieldAddr 51 y 0) rfl ot (by first | exact fa_ptr (off := 0) Tryd.runUnderlying51 rfl Tryd.sizeOf49 rfl | exact fa_iptr (off := 0) Tryd.runUnderlying51 rfl Tryd.sizeOf49 rfl)) ?_
  refine OD.still (wants_plain rfl) rfl (still_r1 (mk := Op.load 49) rfl ot (by first | exact ld_blk (k := 0) rfl rfl Tryd.isAgg49 rfl | exact ld_i Tryd.isAgg49 rfl)) ?_
  refine OD.still (wants_plain rfl) rfl (still_bin rfl ot opd_const (bin_ptrNil (by kernel_rfl))) ?_
  refine OD.wk (Wk.as_ (n := 20) (l' := [(0, _), (6, _)]) (S' := [⟨b, 51, 2, [_, _]⟩]) rfl rfl ⟨lk, lk, trivial⟩) ?_
  refine OD.nil ?_
  refine CD.cond ot (fun hc0 => ?_) (fun hc0 => ?_)
  · exact absurd hc0 (by simp)
  · have hc0' := hc0
    (try simp only [decide_eq_true_eq, decide_eq_false_iff_not, beq_iff_eq, bne_iff_ne, Bool.not_eq_true', Bool.not_eq_false', Bool.not_eq_true, Bool.not_eq_false, beq_eq_false_iff_ne, ne_eq, bne_eq_false_iff_eq, Bool.and_eq_true, Bool.or_eq_true, Bool.not_not, Bool.and_eq_false_iff, Bool.or_eq_false_iff, Int.not_lt, Int.not_le] at hc0')
    refine CD.seq ?_
    refine CD.region ?_
    refine OD.still (wants_plain rfl) rfl (still_mv rfl ot) ?_
    refine OD.still (wants_plain rfl) rfl (still_r1 (mk := Op.nilCheck) rfl ot (by first | exact nc_ptr | exact nc_iptr)) ?_
    refine OD.still (wants_plain rfl) rfl (still_r1 (mk := fun y => Op.fieldAddr 51 y 0) rfl ot (by first | exact fa_ptr (off := 0) Tryd.runUnderlying51 rfl Tryd.sizeOf49 rfl | exact fa_iptr (off := 0) Tryd.runUnderlying51 rfl Tryd.sizeOf49 rfl)) ?_
    refine OD.still (wants_plain rfl) rfl (still_r1 (mk := Op.load 49) rfl ot (by first | exact ld_blk (k := 0) rfl rfl Tryd.isAgg49 rfl | exact ld_i Tryd.isAgg49 rfl)) ?_
    refine OD.still (wants_plain rfl) rfl (still_mv rfl ot) ?_
    refine OD.still (wants_plain rfl) rfl (still_bin rfl ot ot (bin_ptrSame Tryd.underlying49 (by kernel_rfl))) ?_
    refine OD.wk (Wk.as_ (n := 20) (l' := [(19, _)]) (S' := [⟨b, 51, 2, [_, _]⟩]) rfl rfl ⟨lk, trivial⟩) ?_
    refine OD.nil ?_
    refine CD.cond ot (fun hc1 => ?_) (fun hc1 => ?_)
    · exact absurd hc1 (by simp)
    · have hc1' := hc1
      (try simp only [decide_eq_true_eq, decide_eq_false_iff_not, beq_iff_eq, bne_iff_ne, Bool.not_eq_true', Bool.not_eq_false', Bool.not_eq_true, Bool.not_eq_false, beq_eq_false_iff_ne, ne_eq, bne_eq_false_iff_eq, Bool.and_eq_true, Bool.or_eq_true, Bool.not_not, Bool.and_eq_false_iff, Bool.or_eq_false_iff, Int.not_lt, Int.not_le] at hc1')
      refine CD.skip ?_
      refine ⟨.inl rfl, _, [⟨b, 51, 2, [.v (.pointer (some ⟨b, 0, none⟩)), .v (.slice ad n cap)]⟩], (by repeat (first | exact List.Sublist.refl _ | apply List.Sublist.cons)), ret_none Tryd.results33 , ?_⟩
      exact ⟨rfl, rfl⟩

theorem copy_vc (b n cap : Nat) (ad p : Option Addr) (hp : p = none ∨ p = some ⟨b, 0, none⟩) : VC Tryd.prog G 33 [.v (.pointer (some ⟨b, 0, none⟩))] [bldB 51 b p ad n cap] (fun r S => r = .tup [] ∧ S = [bldB 51 b (some ⟨b, 0, none⟩) ad n cap]) := by
  rcases hp with rfl | rfl
  · exact copy0_vc b n cap ad
  · exact copy1_vc b n cap ad

theorem perm_head {B : Blk} {S : List Blk} : (B :: S).Perm ([B] ++ S) := List.Perm.refl _
/-- What a method leaves: the builder with these bytes. -/
def Left (b : Nat) (bs : List UInt8) (S : List Blk) : Prop := ∃ ad cap Sq, OwnL 5 1 (bs.flatMap cB) bs.length ad cap Sq ∧ S = bldB 51 b (some ⟨b, 0, none⟩) ad bs.length cap :: Sq
theorem info8 : (Tryd.prog.info? 5).map (fun i => (i.zero, i.size, i.bytes)) = some (some (.int .u8 0), 1, 1) := by kernel_rfl

set_option maxHeartbeats 4000000 in
set_option maxRecDepth 100000 in
theorem wstr_vc (b cap : Nat) (ad p : Option Addr) (bs : List UInt8) (Sq : List Blk) (s : ByteArray) (hp : p = none ∨ p = some ⟨b, 0, none⟩) (ho : OwnL 5 1 (bs.flatMap cB) bs.length ad cap Sq) (hl : bs.length + s.size ≤ 1000000) : VC Tryd.prog G 19 [.v (.pointer (some ⟨b, 0, none⟩)), .v (.string s)] (bldB 51 b p ad bs.length cap :: Sq) (fun r S => r = .tup [.v (.int .i64 (s.size : Nat)), .v .nilIface] ∧ Left b (bs ++ s.data.toList) S) := by
  refine VC.body Tryd.func19 rfl Tryd.ntmps19 (Nat.le_of_ble_eq_true rfl) fun X0 w0 S00 => ?_
  have hmx : maxLen = 9223372036854775807 := rfl
  unfold bldB
  refine CD.seq ?_
  refine CD.region ?_
  refine OD.still (wants_plain rfl) rfl (still_as rfl opd_const) ?_
  refine OD.still (wants_plain rfl) rfl (still_as rfl opd_const) ?_
  refine OD.wk (Wk.as_ (n := 19) (l' := [(0, _), (1, _)]) (S' := (⟨b, 51, 2, [_, _]⟩ :: Sq)) rfl rfl ⟨lk, lk, trivial⟩) ?_
  refine OD.nil ?_
  refine CD.seq ?_
  refine CD.region ?_
  refine OD.still (wants_plain rfl) rfl (still_mv rfl ot) ?_
  refine OD.call (wants_plain rfl) rfl rfl rfl Tryd.call33 (copy_vc b bs.length cap ad p hp) ⟨ot, trivial⟩ (perm_head) ?_; rintro _ S7 ⟨rfl, rfl⟩
  unfold bldB
  refine OD.wk (Wk.as_ (n := 19) (l' := [(0, _), (1, _)]) (S' := (⟨b, 51, 2, [_, _]⟩ :: Sq)) rfl rfl ⟨lk, lk, trivial⟩) ?_
  refine OD.nil ?_
  refine CD.seq ?_
  refine CD.region ?_
  refine OD.still (wants_plain rfl) rfl (still_mv rfl ot) ?_
  refine OD.still (wants_plain rfl) rfl (still_mv rfl ot) ?_
  refine OD.still (wants_plain rfl) rfl (still_r1 (mk := Op.nilCheck) rfl ot (by first | exact nc_ptr | exact nc_iptr)) ?_
  refine OD.still (wants_plain rfl) rfl (still_r1 (mk := fun y => Op.fieldAddr 51 y 1) rfl ot (by first | exact fa_ptr (off := 1) Tryd.runUnderlying51 rfl Tryd.sizeOf24 rfl | exact fa_iptr (off := 1) Tryd.runUnderlying51 rfl Tryd.sizeOf24 rfl)) ?_
  refine OD.still (wants_plain rfl) rfl (still_r1 (mk := Op.load 24) rfl ot (by first | exact ld_blk (k := 0) rfl rfl Tryd.isAgg24 rfl | exact ld_i Tryd.isAgg24 rfl)) ?_
  refine OD.still (wants_plain rfl) rfl (still_mv rfl ot) ?_
  refine OD.appendStr (n := bs.length) (cap := cap) (ad := ad) (cs := bs.flatMap cB) (Sq := Sq) (R := [_]) (wants_plain rfl) rfl rfl Tryd.underlying24 Tryd.underlying9 info8 ot ho (perm_r11 (A := [_])) (by rw [fm_len cB_len, Nat.mul_one]) ot (by omega) (by omega) (fun ad2 cap2 S2 ho2 => ?_); refine OD.perm (perm_q11 (A := [_])) ?_
  refine OD.still (wants_plain rfl) rfl (still_r1 (mk := Op.nilCheck) rfl ot (by first | exact nc_ptr | exact nc_iptr)) ?_
  refine OD.still (wants_plain rfl) rfl (still_r1 (mk := fun y => Op.fieldAddr 51 y 1) rfl ot (by first | exact fa_ptr (off := 1) Tryd.runUnderlying51 rfl Tryd.sizeOf24 rfl | exact fa_iptr (off := 1) Tryd.runUnderlying51 rfl Tryd.sizeOf24 rfl)) ?_
  refine OD.store (k := 0) (cs' := [_, _]) (wants_plain rfl) rfl rfl ot rfl rfl ot rfl rfl Tryd.sizeOf24 rfl rfl rfl ?_
  refine OD.wk (Wk.as_ (n := 19) (l' := [(1, _)]) (S' := (⟨b, 51, 2, [_, _]⟩ :: S2)) rfl rfl ⟨lk, trivial⟩) ?_
  refine OD.nil ?_
  refine CD.seq ?_
  refine CD.region ?_
  refine OD.still (wants_plain rfl) rfl (still_mv rfl ot) ?_
  refine OD.still (wants_plain rfl) rfl (still_slen rfl rfl ot Tryd.runUnderlying9) ?_
  refine OD.still (wants_plain rfl) rfl (still_as rfl ot) ?_
  refine OD.still (wants_plain rfl) rfl (still_as rfl opd_const) ?_
  refine OD.wk (Wk.as_ (n := 19) (l' := [(4, _), (5, _)]) (S' := (⟨b, 51, 2, [_, _]⟩ :: S2)) rfl rfl ⟨lk, lk, trivial⟩) ?_
  refine OD.nil ?_
  refine CD.ret ?_
  refine ⟨.inr rfl, _, (⟨b, 51, 2, [.v (.pointer (some ⟨b, 0, none⟩)), .v (.slice ad2 (bs.length + s.size) cap2)]⟩ :: S2), List.Sublist.refl _, ret_two Tryd.results19 (res_tmp (Nat.le_of_ble_eq_true rfl) lk) (res_tmp (Nat.le_of_ble_eq_true rfl) lk), ?_⟩
  refine ⟨rfl, ad2, cap2, S2, ?_, ?_⟩
  · have e : (bs ++ s.data.toList).flatMap cB = bs.flatMap cB ++ bytesD s.data.toList := by rw [List.flatMap_append, show s.data.toList.flatMap cB = s.data.toList.map byteD from cB_map _]; rfl
    rw [e, List.length_append, str_len]; exact ho2
  · rw [List.length_append, str_len]; rfl

set_option maxHeartbeats 4000000 in
set_option maxRecDepth 100000 in
theorem wbyte_vc (b cap : Nat) (ad p : Option Addr) (bs : List UInt8) (Sq : List Blk) (c : UInt8) (hp : p = none ∨ p = some ⟨b, 0, none⟩) (ho : OwnL 5 1 (bs.flatMap cB) bs.length ad cap Sq) (hl : bs.length + 1 ≤ 1000000) : VC Tryd.prog G 22 [.v (.pointer (some ⟨b, 0, none⟩)), .v (.int .u8 (c.toNat : Int))] (bldB 51 b p ad bs.length cap :: Sq) (fun r S => r = .v .nilIface ∧ Left b (bs ++ [c]) S) := by
  refine VC.body Tryd.func22 rfl Tryd.ntmps22 (Nat.le_of_ble_eq_true rfl) fun X0 w0 S00 => ?_
  have hmx : maxLen = 9223372036854775807 := rfl
  unfold bldB
  refine CD.seq ?_
  refine CD.region ?_
  refine OD.still (wants_plain rfl) rfl (still_as rfl opd_const) ?_
  refine OD.wk (Wk.as_ (n := 17) (l' := [(0, _), (1, _)]) (S' := (⟨b, 51, 2, [_, _]⟩ :: Sq)) rfl rfl ⟨lk, lk, trivial⟩) ?_
  refine OD.nil ?_
  refine CD.seq ?_
  refine CD.region ?_
  refine OD.still (wants_plain rfl) rfl (still_mv rfl ot) ?_
  refine OD.call (wants_plain rfl) rfl rfl rfl Tryd.call33 (copy_vc b bs.length cap ad p hp) ⟨ot, trivial⟩ (perm_head) ?_; rintro _ S6 ⟨rfl, rfl⟩
  unfold bldB
  refine OD.wk (Wk.as_ (n := 17) (l' := [(0, _), (1, _)]) (S' := (⟨b, 51, 2, [_, _]⟩ :: Sq)) rfl rfl ⟨lk, lk, trivial⟩) ?_
  refine OD.nil ?_
  refine CD.seq ?_
  refine CD.region ?_
  refine OD.still (wants_plain rfl) rfl (still_mv rfl ot) ?_
  refine OD.still (wants_plain rfl) rfl (still_mv rfl ot) ?_
  refine OD.still (wants_plain rfl) rfl (still_r1 (mk := Op.nilCheck) rfl ot (by first | exact nc_ptr | exact nc_iptr)) ?_
  refine OD.still (wants_plain rfl) rfl (still_r1 (mk := fun y => Op.fieldAddr 51 y 1) rfl ot (by first | exact fa_ptr (off := 1) Tryd.runUnderlying51 rfl Tryd.sizeOf24 rfl | exact fa_iptr (off := 1) Tryd.runUnderlying51 rfl Tryd.sizeOf24 rfl)) ?_
  refine OD.still (wants_plain rfl) rfl (still_r1 (mk := Op.load 24) rfl ot (by first | exact ld_blk (k := 0) rfl rfl Tryd.isAgg24 rfl | exact ld_i Tryd.isAgg24 rfl)) ?_
  refine OD.still (wants_plain rfl) rfl (still_mv rfl ot) ?_
  refine OD.bldS (pl := [(0, _)]) (zvs := [.int .u8 0]) (ds := [_]) (wants_plain rfl) rfl rfl Tryd.zeroValue5 Tryd.runUnderlying24 Tryd.sizeOf5 rfl rfl (by kernel_rfl) ⟨rfl, ot, trivial⟩ rfl rfl (fun b13 => ?_)
  refine OD.give (k := 0) (t := 13) (sz := 1) (m := 1) (cs := [c].flatMap cB) rfl lk rfl rfl rfl (Nat.le_refl _) (by decide) ?_
  refine OD.appendG (g := cB) (ls := bs) (new := [c]) (Sq := Sq) (R := [_]) cB_len cB_one (wants_plain rfl) rfl rfl Tryd.underlying24 info8 rfl (by decide) ot ho (perm_r11 (A := [_])) ot (by simp) (by simp; omega) (by simp; omega) (fun b2 cap2 h1 h2 => ?_)
  refine OD.perm (List.Perm.swap _ _ _) ?_
  refine OD.still (wants_plain rfl) rfl (still_r1 (mk := Op.nilCheck) rfl ot (by first | exact nc_ptr | exact nc_iptr)) ?_
  refine OD.still (wants_plain rfl) rfl (still_r1 (mk := fun y => Op.fieldAddr 51 y 1) rfl ot (by first | exact fa_ptr (off := 1) Tryd.runUnderlying51 rfl Tryd.sizeOf24 rfl | exact fa_iptr (off := 1) Tryd.runUnderlying51 rfl Tryd.sizeOf24 rfl)) ?_
  first | refine OD.store (k := 0) (cs' := [_, _]) (wants_plain rfl) rfl rfl ot rfl rfl ot rfl rfl Tryd.sizeOf24 rfl rfl rfl ?_ | refine OD.store (k := 1) (wants_plain rfl) rfl rfl ot rfl rfl ot rfl rfl Tryd.sizeOf24 rfl rfl rfl ?_
  refine OD.wk (Wk.as_ (n := 17) (l' := []) (S' := [⟨b, 51, 2, [_, _]⟩, _]) rfl rfl trivial) ?_
  refine OD.nil ?_
  refine CD.seq ?_
  refine CD.region ?_
  refine OD.still (wants_plain rfl) rfl (still_as rfl opd_const) ?_
  refine OD.wk (Wk.as_ (n := 17) (l' := [(4, _)]) (S' := [⟨b, 51, 2, [_, _]⟩, _]) rfl rfl ⟨lk, trivial⟩) ?_
  refine OD.nil ?_
  refine CD.ret ?_
  refine ⟨.inr rfl, _, [⟨b, 51, 2, [.v (.pointer (some ⟨b, 0, none⟩)), .v (.slice (some ⟨b2, 0, none⟩) (bs ++ [c]).length cap2)]⟩, ⟨b2, 5, cap2 * 1, (bs ++ [c]).flatMap cB⟩], List.Sublist.refl _, ret_one Tryd.results22 (res_tmp (Nat.le_of_ble_eq_true rfl) lk), ?_⟩
  exact ⟨rfl, _, cap2, _, ownL_row (g := cB) (sz := 1) (ls := bs ++ [c]) h1 h2, rfl⟩

set_option maxHeartbeats 4000000 in
set_option maxRecDepth 100000 in
theorem len_vc (b n cap : Nat) (ad p : Option Addr) : VC Tryd.prog G 23 [.v (.pointer (some ⟨b, 0, none⟩))] [bldB 51 b p ad n cap] (fun r S => r = .v (.int .i64 (n : Nat)) ∧ S = [bldB 51 b p ad n cap]) := by
  refine VC.body Tryd.func23 rfl Tryd.ntmps23 (Nat.le_of_ble_eq_true rfl) fun X0 w0 S00 => ?_
  unfold bldB
  refine CD.seq ?_
  refine CD.region ?_
  refine OD.still (wants_plain rfl) rfl (still_as rfl opd_const) ?_
  refine OD.wk (Wk.as_ (n := 8) (l' := [(0, _)]) (S' := [⟨b, 51, 2, [_, _]⟩]) rfl rfl ⟨lk, trivial⟩) ?_
  refine OD.nil ?_
  refine CD.seq ?_
  refine CD.region ?_
  refine OD.still (wants_plain rfl) rfl (still_mv rfl ot) ?_
  refine OD.still (wants_plain rfl) rfl (still_r1 (mk := Op.nilCheck) rfl ot (by first | exact nc_ptr | exact nc_iptr)) ?_
  refine OD.still (wants_plain rfl) rfl (still_r1 (mk := fun y => Op.fieldAddr 51 y 1) rfl ot (by first | exact fa_ptr (off := 1) Tryd.runUnderlying51 rfl Tryd.sizeOf24 rfl | exact fa_iptr (off := 1) Tryd.runUnderlying51 rfl Tryd.sizeOf24 rfl)) ?_
  refine OD.still (wants_plain rfl) rfl (still_r1 (mk := Op.load 24) rfl ot (by first | exact ld_blk (k := 0) rfl rfl Tryd.isAgg24 rfl | exact ld_i Tryd.isAgg24 rfl)) ?_
  refine OD.still (wants_plain rfl) rfl (still_r1 (mk := fun y => .call { callee := .builtin .len, args := #[y], argTypes := #[24] }) rfl ot (by first | exact len_list rfl Tryd.runUnderlying24 | exact len_row rfl Tryd.runUnderlying24)) ?_
  refine OD.still (wants_plain rfl) rfl (still_as rfl ot) ?_
  refine OD.wk (Wk.as_ (n := 8) (l' := [(2, _)]) (S' := [⟨b, 51, 2, [_, _]⟩]) rfl rfl ⟨lk, trivial⟩) ?_
  refine OD.nil ?_
  refine CD.ret ?_
  refine ⟨.inr rfl, _, [⟨b, 51, 2, [.v (.pointer p), .v (.slice ad n cap)]⟩], (by repeat (first | exact List.Sublist.refl _ | apply List.Sublist.cons)), ret_one Tryd.results23 (res_tmp (Nat.le_of_ble_eq_true rfl) lk), ?_⟩
  exact ⟨rfl, rfl⟩

end Go.Proofs.YtdlcfkkkjklanaaDoor.Bs

namespace Go.Proofs.YtdlcfkkkjklanaaDoor.Rp
open Go.RowKit V
set_option linter.unusedVariables false
set_option linter.unusedSimpArgs false

theorem repl_one (c : UInt8) (new : List UInt8) : ∀ s : List UInt8, Lib.replaceK [c] new (s.count c) s = s.flatMap fun b => if b = c then new else [b]
  | [] => rfl
  | b :: l => by
    have ih := repl_one c new l
    by_cases h : b = c
    · subst h
      have hi : Lib.index (b :: l) [b] = ((0 : Nat) : Int) := by rw [Lib.index_one]; simp [Lib.indexByte]
      rw [List.count_cons_self, Lib.replaceK_hit _ _ _ _ _ hi, List.flatMap_cons, if_pos rfl, ← ih]
      simp
    · have hc : (b :: l).count c = l.count c := List.count_cons_of_ne h
      rw [hc, List.flatMap_cons, if_neg h, ← ih]
      cases hk : l.count c with
      | zero => rfl
      | succ k =>
        obtain ⟨i, hi⟩ := Lib.index_of_count (s := l) (old := [c]) (by rw [Lib.count_one]; omega)
        have hi2 : Lib.index (b :: l) [c] = ((i + 1 : Nat) : Int) := by
          rw [Lib.index_one] at hi ⊢
          unfold Lib.indexByte
          rw [if_neg (by simpa using h), hi, if_neg (by rw [beq_iff_eq]; omega)]
          omega
        rw [Lib.replaceK_hit _ _ _ _ _ hi2, Lib.replaceK_hit _ _ _ _ _ hi]
        simp
def replS (c : UInt8) (new : List UInt8) (s : ByteArray) : ByteArray := ⟨(s.data.toList.flatMap fun b => if b = c then new else [b]).toArray⟩
theorem replAll_one (c : UInt8) (new s : List UInt8) : Lib.replaceAll s [c] new = s.flatMap fun b => if b = c then new else [b] := by
  unfold Lib.replaceAll Lib.replace Lib.replaceNum
  split
  · rename_i h
    have h' : [c] = new := by simpa using h
    subst h'
    induction s with
    | nil => rfl
    | cons b l ih =>
      rw [List.flatMap_cons, ← ih]
      have : (if b = c then [c] else [b]) = [b] := by
        split
        · rename_i e; rw [e]
        · rfl
      rw [this]; rfl
  · rw [if_pos (.inl (by decide)), Lib.count_one, repl_one]
variable {G : List (Nat × List Value)} {m : Int}
theorem repl_vp (hG : (4, [Value.int .i64 m]) ∈ G) (c : UInt8) (new : ByteArray) (s : ByteArray) (hs : s.size ≤ 1000000) (hn : new.size ≤ 1000) : VP Tryd.prog G 21 [.v (.string s), .v (.string ⟨#[c]⟩), .v (.string new)] (.v (.string (replS c new.data.toList s))) := by
  have hc : Lib.countB s ⟨#[c]⟩ ≤ 1000000 := by
    show Lib.count s.data.toList [c] ≤ 1000000
    rw [Lib.count_one]
    exact Nat.le_trans List.count_le_length (by rw [str_len]; exact hs)
  have hmul : Lib.countB s ⟨#[c]⟩ * new.size ≤ 1000000 * 1000 := Nat.mul_le_mul hc hn
  have key := VP.ofCalls (P := Tryd.prog) (G := G) (f := 21) (vs := [.string s, .string ⟨#[c]⟩, .string new]) (v := .string (replS c new.data.toList s)) fun w htab => by
    refine (Tryd.strings_ReplaceAll s ⟨#[c]⟩ new m w (by omega) (htab _ hG 0 _ rfl) (Nat.le_refl _) (by omega)).mono fun e w' ⟨h1, h2⟩ => ⟨?_, h2⟩
    rw [h1]
    congr 2
    show (⟨(Lib.replaceAll s.data.toList [c] new.data.toList).toArray⟩ : ByteArray) = _
    rw [replAll_one]; rfl
  exact key

end Go.Proofs.YtdlcfkkkjklanaaDoor.Rp
namespace Go.Proofs.YtdlcfkkkjklanaaDoor.Cd
theorem len_var {W : World} (hS : W.ShapedOpen Tryd.prog) : ∃ m, Tab.TabAt W 4 [Value.int .i64 m] := by
  obtain ⟨m, hm⟩ := Tryd.laysM155.s1_3 W hS
  exact ⟨m, fun k v hk => by
    match k, hk with
    | 0, hk => cases hk; exact hm⟩
end Go.Proofs.YtdlcfkkkjklanaaDoor.Cd
namespace Go.Proofs.YtdlcfkkkjklanaaDoor.Rp

end Go.Proofs.YtdlcfkkkjklanaaDoor.Rp

namespace Go.Proofs.YtdlcfkkkjklanaaDoor.Lx
open Go.RowKit V Go.Proofs.YtdlcfkkkjklanaaDoor.Nm Go.Proofs.YtdlcfkkkjklanaaDoor.Pk Go.Proofs.YtdlcfkkkjklanaaDoor.Bs Go.Proofs.YtdlcfkkkjklanaaDoor.Rp
set_option linter.unusedVariables false
set_option linter.unusedSimpArgs false

/-- A text's bytes, each quote twice. -/
def escQ (s : ByteArray) : List UInt8 := (replS 39 [39, 39] s).data.toList
def showT (t : Tk) : List UInt8 := if t.k = 2 then Lib.itoa t.n else if t.k = 3 then [39] ++ escQ t.s ++ [39] else t.s.data.toList
def joinG : List Tk → List UInt8 → List UInt8 × Int
  | [], acc => (acc, 0)
  | t :: r, acc => if checkT t ≠ 0 then ([], checkT t) else if (acc ++ showT t ++ [32]).length > 400 then ([], 1) else joinG r (acc ++ showT t ++ [32])
/-- Tokens joined; what is wrong. -/
def joinF (l : List Tk) : List UInt8 × Int := if l.length > 100 then ([], 10) else joinG l []
def joinD (r : List UInt8 × Int) : D := .tup [.v (.string ⟨r.1.toArray⟩), .v (.int .i64 r.2)]
theorem join_bad {t : Tk} {r : List Tk} {acc : List UInt8} (h : checkT t ≠ 0) : joinG (t :: r) acc = ([], checkT t) := by rw [joinG, if_pos h]
theorem join_long {t : Tk} {r : List Tk} {acc : List UInt8} (h : checkT t = 0) (h1 : 400 < (acc ++ showT t ++ [32]).length) : joinG (t :: r) acc = ([], 1) := by rw [joinG, if_neg (by simpa using h), if_pos h1]
theorem join_more {t : Tk} {r : List Tk} {acc : List UInt8} (h : checkT t = 0) (h1 : (acc ++ showT t ++ [32]).length ≤ 400) : joinG (t :: r) acc = joinG r (acc ++ showT t ++ [32]) := by rw [joinG, if_neg (by simpa using h), if_neg (by omega)]
theorem drop_at {l : List Tk} {i : Nat} (h : i < l.length) : l.drop i = l[i] :: l.drop (i + 1) := List.drop_eq_getElem_cons h
theorem esc_len (s : ByteArray) : (escQ s).length ≤ 2 * s.size := by
  rw [← str_len s]
  show (s.data.toList.flatMap fun b => if b = 39 then [39, 39] else [b]).length ≤ _
  induction s.data.toList with
  | nil => simp
  | cons a l ih =>
    rw [List.flatMap_cons, List.length_append, List.length_cons]
    have : (if a = 39 then [39, 39] else [a] : List UInt8).length ≤ 2 := by split <;> simp
    omega

theorem show_num {t : Tk} (h : t.k = 2) : showT t = (⟨(Lib.itoa t.n).toArray⟩ : ByteArray).data.toList := by unfold showT; rw [if_pos h]
theorem show_str {t : Tk} (h : t.k = 3) : showT t = ((⟨#[39]⟩ : ByteArray) ++ replS 39 [39, 39] t.s ++ ⟨#[39]⟩).data.toList := by
  unfold showT
  rw [if_neg (by omega), if_pos h]
  simp only [Go.Joins.data_append]
  rfl
theorem show_txt {t : Tk} (h : t.k ≠ 2) (h1 : t.k ≠ 3) : showT t = t.s.data.toList := by unfold showT; rw [if_neg h, if_neg h1]
def NumOk (G : List (Nat × List Value)) (l : List Tk) : Prop := ∀ t ∈ l, t.k = 2 → VP Tryd.prog G 20 [.v (.int .i64 t.n)] (.v (.string ⟨(Lib.itoa t.n).toArray⟩)) ∧ (Lib.itoa t.n).length ≤ 1000
variable {G : List (Nat × List Value)} {m : Int}

set_option maxHeartbeats 4000000 in
set_option maxRecDepth 100000 in
theorem join_vp (hm : (0, marksC) ∈ G) (hG : (4, [Value.int .i64 m]) ∈ G) (l : List Tk) (hll : l.length ≤ maxLen) (hsz : ∀ t ∈ l, t.s.size ≤ 100000) (hI : NumOk G l) : VP Tryd.prog G 12 [.list 3 (l.flatMap cT) l.length] (joinD (joinF l)) := by
  refine VC.bodyS Tryd.func12 rfl Tryd.ntmps12 (Nat.le_of_ble_eq_true rfl) fun X0 w0 S00 hS00 => ?_
  have hmx : maxLen = 9223372036854775807 := rfl
  refine CD.seq ?_
  refine CD.region ?_
  refine OD.still (wants_plain rfl) rfl (still_as rfl opd_const) ?_
  refine OD.still (wants_plain rfl) rfl (still_as rfl opd_const) ?_
  refine OD.wk (Wk.as_ (n := 46) (l' := [(0, _)]) (S' := []) rfl rfl ⟨lk, trivial⟩) ?_
  refine OD.nil ?_
  refine CD.seq ?_
  refine CD.seq ?_
  refine CD.region ?_
  refine OD.still (wants_plain rfl) rfl (still_mv rfl ot) ?_
  refine OD.still (wants_plain rfl) rfl (still_r1 (mk := fun y => .call { callee := .builtin .len, args := #[y], argTypes := #[25] }) rfl ot (by first | exact len_list rfl Tryd.runUnderlying25 | exact len_row rfl Tryd.runUnderlying25)) ?_
  refine OD.still (wants_plain rfl) rfl (still_bin rfl ot opd_const bin_gtr) ?_
  refine OD.wk (Wk.as_ (n := 46) (l' := [(0, _), (10, _)]) (S' := []) rfl rfl ⟨lk, lk, trivial⟩) ?_
  refine OD.nil ?_
  refine CD.cond ot (fun hc0 => ?_) (fun hc0 => ?_)
  · have hc0' := hc0
    (try simp only [decide_eq_true_eq, decide_eq_false_iff_not, beq_iff_eq, bne_iff_ne, Bool.not_eq_true', Bool.not_eq_false', Bool.not_eq_true, Bool.not_eq_false, beq_eq_false_iff_ne, ne_eq, bne_eq_false_iff_eq, Bool.and_eq_true, Bool.or_eq_true, Bool.not_not, Bool.and_eq_false_iff, Bool.or_eq_false_iff, Int.not_lt, Int.not_le] at hc0')
    have hbig : joinF l = ([], 10) := by unfold joinF; rw [if_pos (by omega)]
    refine CD.seq ?_
    refine CD.region ?_
    refine OD.still (wants_plain rfl) rfl (still_as rfl opd_const) ?_
    refine OD.still (wants_plain rfl) rfl (still_as rfl opd_const) ?_
    refine OD.wk (Wk.as_ (n := 46) (l' := [(2, _), (3, _)]) (S' := []) rfl rfl ⟨lk, lk, trivial⟩) ?_
    refine OD.nil ?_
    refine CD.ret ?_
    refine ⟨.inr rfl, _, [], List.nil_sublist _, ret_two Tryd.results12 (res_tmp (Nat.le_of_ble_eq_true rfl) lk) (res_tmp (Nat.le_of_ble_eq_true rfl) lk), ?_⟩
    first | (rw [hbig]; exact ⟨rfl, rfl⟩) | (rw [hjf, hend]; exact ⟨rfl, rfl⟩)
  · have hc0' := hc0
    (try simp only [decide_eq_true_eq, decide_eq_false_iff_not, beq_iff_eq, bne_iff_ne, Bool.not_eq_true', Bool.not_eq_false', Bool.not_eq_true, Bool.not_eq_false, beq_eq_false_iff_ne, ne_eq, bne_eq_false_iff_eq, Bool.and_eq_true, Bool.or_eq_true, Bool.not_not, Bool.and_eq_false_iff, Bool.or_eq_false_iff, Int.not_lt, Int.not_le] at hc0')
    have hjf : joinF l = joinG l [] := by unfold joinF; rw [if_neg (by omega)]
    refine CD.skip ?_
    refine CD.seq ?_
    refine CD.region ?_
    refine OD.alloc (ds := [_, _]) (wants_plain rfl) rfl rfl Tryd.zeroValue51 rfl (fun b4 => ?_)
    refine OD.wk (Wk.as_ (n := 46) (l' := [(0, _), (4, _)]) (S' := [⟨b4, 51, 2, [_, _]⟩]) rfl rfl ⟨lk, lk, trivial⟩) ?_
    refine OD.nil ?_
    refine CD.seq ?_
    refine CD.seq ?_
    refine CD.region ?_
    refine OD.still (wants_plain rfl) rfl (still_mv rfl ot) ?_
    refine OD.still (wants_plain rfl) rfl (still_r1 (mk := fun y => .call { callee := .builtin .len, args := #[y], argTypes := #[25] }) rfl ot (by first | exact len_list rfl Tryd.runUnderlying25 | exact len_row rfl Tryd.runUnderlying25)) ?_
    refine OD.still (wants_plain rfl) rfl (still_mv rfl opd_const) ?_
    refine OD.wk (Wk.as_ (n := 46) (l' := [(4, _), (11, _), (12, _), (13, _)]) (S' := [⟨b4, 51, 2, [_, _]⟩]) rfl rfl ⟨lk, lk, lk, lk, trivial⟩) ?_
    refine OD.nil ?_
    refine CD.block ?_
    refine CD.wk (Wk.asS (n := 46) (l' := [(4, .v (.pointer (some ⟨b4, 0, none⟩))), (11, .list 3 (l.flatMap cT) l.length), (12, .v (.int .i64 (l.length : Nat))), (13, .v (.int .i64 ((0) : Nat)))]) (S' := ((⟨b4, 51, 2, [.v (.pointer none), .v (.slice none ([]).length (0))]⟩ : Blk) :: ([]))) rfl (by repeat (first | exact List.Sublist.refl _ | apply List.Sublist.cons_cons | apply List.Sublist.cons)) ⟨(by (repeat (first | exact look_hit | (apply look_at; focus (first | rfl | (simp; done) | (congr 2; omega))) | (apply look_miss; focus rfl))); done), (by (repeat (first | exact look_hit | (apply look_at; focus (first | rfl | (simp; done) | (congr 2; omega))) | (apply look_miss; focus rfl))); done), (by (repeat (first | exact look_hit | (apply look_at; focus (first | rfl | (simp; done) | (congr 2; omega))) | (apply look_miss; focus rfl))); done), (by (repeat (first | exact look_hit | (apply look_at; focus (first | rfl | (simp; done) | (congr 2; omega))) | (apply look_miss; focus rfl))); done), trivial⟩) (CD.loop (fun (gh__ : Nat × List UInt8 × Option Addr × Option Addr × Nat × List Blk) y__ => match gh__ with | (i, acc, p, adr, cpr, Sr) => (i ≤ l.length) ∧ (joinG (l.drop i) acc = joinG l []) ∧ (acc.length ≤ 400) ∧ (p = none ∨ p = some ⟨b4, 0, none⟩) ∧ (OwnL 5 1 (acc.flatMap cB) acc.length adr cpr Sr) ∧ y__ = (⟨46, [(4, .v (.pointer (some ⟨b4, 0, none⟩))), (11, .list 3 (l.flatMap cT) l.length), (12, .v (.int .i64 (l.length : Nat))), (13, .v (.int .i64 (i : Nat)))], ((⟨b4, 51, 2, [.v (.pointer p), .v (.slice adr acc.length cpr)]⟩ : Blk) :: Sr)⟩ : St)) (fun (gh__ : Nat × List UInt8 × Option Addr × Option Addr × Nat × List Blk) => match gh__ with | (i, acc, p, adr, cpr, Sr) => l.length - i) (0, [], none, none, 0, []) ⟨(Nat.zero_le _), rfl, (Nat.zero_le _), (.inl rfl), ownL_nil, rfl⟩ ?_)
    rintro ⟨i, acc, p, adr, cpr, Sr⟩ _ ⟨hi, hj, hal, hp, hor, rfl⟩
    refine CD.seq ?_
    refine CD.region ?_
    refine OD.still (wants_plain rfl) rfl (still_bin rfl ot ot bin_lss) ?_
    refine OD.wk (Wk.as_ (n := 46) (l' := [(4, _), (11, _), (12, _), (13, _), (14, _)]) (S' := (⟨b4, 51, 2, [_, _]⟩ :: Sr)) rfl rfl ⟨lk, lk, lk, lk, lk, trivial⟩) ?_
    refine OD.nil ?_
    refine CD.seq ?_
    refine CD.cond ot (fun hc1 => ?_) (fun hc1 => ?_)
    · have hc1' := hc1
      (try simp only [decide_eq_true_eq, decide_eq_false_iff_not, beq_iff_eq, bne_iff_ne, Bool.not_eq_true', Bool.not_eq_false', Bool.not_eq_true, Bool.not_eq_false, beq_eq_false_iff_ne, ne_eq, bne_eq_false_iff_eq, Bool.and_eq_true, Bool.or_eq_true, Bool.not_not, Bool.and_eq_false_iff, Bool.or_eq_false_iff, Int.not_lt, Int.not_le] at hc1')
      have hlt : i < l.length := by omega
      have hd := drop_at hlt
      have htm := List.getElem_mem hlt
      have hts := hsz _ htm
      rw [hd] at hj
      refine CD.skip ?_
      refine CD.seq ?_
      refine CD.block ?_
      refine CD.seq ?_
      refine CD.region ?_
      refine OD.still (wants_plain rfl) rfl (still_r2 (mk := Op.indexAddr 25) rfl ot ot (by first | exact ix_list Tryd.runUnderlying25 Tryd.sizeOf30 rfl (by first | assumption | omega) | exact ix_list (j := Int.toNat _) Tryd.runUnderlying25 Tryd.sizeOf30 (Int.toNat_of_nonneg (by omega)).symm (by omega) | exact ix_row Tryd.runUnderlying25 Tryd.sizeOf30 rfl (by first | assumption | omega) | exact ix_row (j := Int.toNat _) Tryd.runUnderlying25 Tryd.sizeOf30 (Int.toNat_of_nonneg (by omega)).symm (by omega))) ?_
      refine OD.still (wants_plain rfl) rfl (still_r1 (mk := Op.load 30) rfl ot (by first | exact ld_blks (k := 0) (ds := [_, _, _]) rfl rfl Tryd.isAgg30 Tryd.sizeOf30 rfl rfl | exact ld_fms cT_len Tryd.isAgg30 Tryd.sizeOf30 (by first | assumption | omega) | exact ld_rows (k := 0) cT_len rfl rfl rfl Tryd.isAgg30 Tryd.sizeOf30 (by first | assumption | omega) | exact ld_is (ds := [_, _, _]) Tryd.isAgg30 Tryd.sizeOf30 rfl rfl)) ?_
      refine OD.alloc (ds := [_, _, _]) (wants_plain rfl) rfl rfl Tryd.zeroValue30 rfl (fun b6 => ?_)
      refine OD.store (k := 0) (cs' := [_, _, _]) (wants_plain rfl) rfl rfl ot rfl rfl ot rfl rfl Tryd.sizeOf30 rfl rfl rfl ?_
      refine OD.wk (Wk.as_ (n := 46) (l' := [(4, _), (6, _), (11, _), (12, _), (13, _)]) (S' := (⟨b6, 30, 3, [_, _, _]⟩ :: ⟨b4, 51, 2, [_, _]⟩ :: Sr)) rfl rfl ⟨lk, lk, lk, lk, lk, trivial⟩) ?_
      refine OD.nil ?_
      refine CD.seq ?_
      refine CD.seq ?_
      refine CD.region ?_
      refine OD.still (wants_plain rfl) rfl (still_r1 (mk := Op.load 30) rfl ot (by first | exact ld_blks (k := 0) (ds := [_, _, _]) rfl rfl Tryd.isAgg30 Tryd.sizeOf30 rfl rfl | exact ld_fms cT_len Tryd.isAgg30 Tryd.sizeOf30 (by first | assumption | omega) | exact ld_rows (k := 0) cT_len rfl rfl rfl Tryd.isAgg30 Tryd.sizeOf30 (by first | assumption | omega) | exact ld_rows (k := 1) cT_len rfl rfl rfl Tryd.isAgg30 Tryd.sizeOf30 (by first | assumption | omega) | exact ld_is (ds := [_, _, _]) Tryd.isAgg30 Tryd.sizeOf30 rfl rfl)) ?_
      refine OD.callP (wants_plain rfl) rfl rfl rfl Tryd.call18 (check_vp hm l[i] (by omega)) ⟨ot, trivial⟩ ?_
      refine OD.still (wants_plain rfl) rfl (still_as rfl ot) ?_
      refine OD.wk (Wk.as_ (n := 46) (l' := [(4, _), (6, _), (7, _), (11, _), (12, _), (13, _)]) (S' := (⟨b6, 30, 3, [_, _, _]⟩ :: ⟨b4, 51, 2, [_, _]⟩ :: Sr)) rfl rfl ⟨lk, lk, lk, lk, lk, lk, trivial⟩) ?_
      refine OD.nil ?_
      refine CD.seq ?_
      refine CD.region ?_
      refine OD.still (wants_plain rfl) rfl (still_mv rfl ot) ?_
      refine OD.still (wants_plain rfl) rfl (still_bin rfl ot opd_const bin_neq) ?_
      refine OD.wk (Wk.as_ (n := 46) (l' := [(4, _), (6, _), (7, _), (11, _), (12, _), (13, _), (20, _)]) (S' := (⟨b6, 30, 3, [_, _, _]⟩ :: ⟨b4, 51, 2, [_, _]⟩ :: Sr)) rfl rfl ⟨lk, lk, lk, lk, lk, lk, lk, trivial⟩) ?_
      refine OD.nil ?_
      refine CD.cond ot (fun hc2 => ?_) (fun hc2 => ?_)
      · have hc2' := hc2
        (try simp only [decide_eq_true_eq, decide_eq_false_iff_not, beq_iff_eq, bne_iff_ne, Bool.not_eq_true', Bool.not_eq_false', Bool.not_eq_true, Bool.not_eq_false, beq_eq_false_iff_ne, ne_eq, bne_eq_false_iff_eq, Bool.and_eq_true, Bool.or_eq_true, Bool.not_not, Bool.and_eq_false_iff, Bool.or_eq_false_iff, Int.not_lt, Int.not_le] at hc2')
        have hc0 : checkT l[i] ≠ 0 := by simpa using hc2
        have hend := join_bad (r := l.drop (i + 1)) (acc := acc) hc0
        rw [hj] at hend
        refine CD.seq ?_
        refine CD.region ?_
        refine OD.still (wants_plain rfl) rfl (still_mv rfl ot) ?_
        refine OD.still (wants_plain rfl) rfl (still_as rfl opd_const) ?_
        refine OD.still (wants_plain rfl) rfl (still_as rfl ot) ?_
        refine OD.wk (Wk.as_ (n := 46) (l' := [(2, _), (3, _)]) (S' := (⟨b6, 30, 3, [_, _, _]⟩ :: ⟨b4, 51, 2, [_, _]⟩ :: Sr)) rfl rfl ⟨lk, lk, trivial⟩) ?_
        refine OD.nil ?_
        refine CD.ret ?_
        refine ⟨.inr rfl, _, [], List.nil_sublist _, ret_two Tryd.results12 (res_tmp (Nat.le_of_ble_eq_true rfl) lk) (res_tmp (Nat.le_of_ble_eq_true rfl) lk), ?_⟩
        first | (rw [hbig]; exact ⟨rfl, rfl⟩) | (rw [hjf, hend]; exact ⟨rfl, rfl⟩)
      · have hc2' := hc2
        (try simp only [decide_eq_true_eq, decide_eq_false_iff_not, beq_iff_eq, bne_iff_ne, Bool.not_eq_true', Bool.not_eq_false', Bool.not_eq_true, Bool.not_eq_false, beq_eq_false_iff_ne, ne_eq, bne_eq_false_iff_eq, Bool.and_eq_true, Bool.or_eq_true, Bool.not_not, Bool.and_eq_false_iff, Bool.or_eq_false_iff, Int.not_lt, Int.not_le] at hc2')
        have hc0 : checkT l[i] = 0 := by simpa using hc2
        refine CD.skip ?_
        refine CD.seq ?_
        refine CD.seq ?_
        refine CD.region ?_
        refine OD.still (wants_plain rfl) rfl (still_r1 (mk := fun y => Op.fieldAddr 30 y 0) rfl ot (by first | exact fa_ptr (off := 0) Tryd.runUnderlying30 rfl Tryd.sizeOf3 rfl | exact fa_iptr (off := 0) Tryd.runUnderlying30 rfl Tryd.sizeOf3 rfl)) ?_
        refine OD.still (wants_plain rfl) rfl (still_r1 (mk := Op.load 3) rfl ot (by first | exact ld_blk (k := 0) rfl rfl Tryd.isAgg3 rfl | exact ld_fm cT_len Tryd.isAgg3 (by first | assumption | omega) rfl | exact ld_fm0 cT_len Tryd.isAgg3 (by first | assumption | omega) rfl | exact ld_row (k := 0) cT_len rfl rfl rfl Tryd.isAgg3 (by first | assumption | omega) rfl | exact ld_row0 (k := 0) cT_len rfl rfl rfl Tryd.isAgg3 (by first | assumption | omega) rfl | exact ld_row (k := 1) cT_len rfl rfl rfl Tryd.isAgg3 (by first | assumption | omega) rfl | exact ld_row0 (k := 1) cT_len rfl rfl rfl Tryd.isAgg3 (by first | assumption | omega) rfl | exact ld_i Tryd.isAgg3 rfl)) ?_
        refine OD.wk (Wk.as_ (n := 46) (l' := [(4, _), (6, _), (11, _), (12, _), (13, _), (23, _)]) (S' := (⟨b6, 30, 3, [_, _, _]⟩ :: ⟨b4, 51, 2, [_, _]⟩ :: Sr)) rfl rfl ⟨lk, lk, lk, lk, lk, lk, trivial⟩) ?_
        refine OD.nil ?_
        refine CD.block ?_
        refine CD.seq ?_
        refine CD.region ?_
        refine OD.still (wants_plain rfl) rfl (still_bin rfl ot opd_const bin_eql) ?_
        refine OD.still (wants_plain rfl) rfl (still_as rfl ot) ?_
        refine OD.wk (Wk.as_ (n := 46) (l' := [(4, _), (6, _), (11, _), (12, _), (13, _), (23, _), (27, _)]) (S' := (⟨b6, 30, 3, [_, _, _]⟩ :: ⟨b4, 51, 2, [_, _]⟩ :: Sr)) rfl rfl ⟨lk, lk, lk, lk, lk, lk, lk, trivial⟩) ?_
        refine OD.nil ?_
        refine CD.cond ot (fun hc3 => ?_) (fun hc3 => ?_)
        · have hc3' := hc3
          (try simp only [decide_eq_true_eq, decide_eq_false_iff_not, beq_iff_eq, bne_iff_ne, Bool.not_eq_true', Bool.not_eq_false', Bool.not_eq_true, Bool.not_eq_false, beq_eq_false_iff_ne, ne_eq, bne_eq_false_iff_eq, Bool.and_eq_true, Bool.or_eq_true, Bool.not_not, Bool.and_eq_false_iff, Bool.or_eq_false_iff, Int.not_lt, Int.not_le] at hc3')
          have hk2 : l[i].k = 2 := by simpa using hc3
          obtain ⟨hI1, hI2⟩ := hI _ htm hk2
          refine CD.region ?_
          refine OD.still (wants_plain rfl) rfl (still_r1 (mk := fun y => Op.fieldAddr 30 y 2) rfl ot (by first | exact fa_ptr (off := 2) Tryd.runUnderlying30 rfl Tryd.sizeOf3 rfl | exact fa_iptr (off := 2) Tryd.runUnderlying30 rfl Tryd.sizeOf3 rfl)) ?_
          refine OD.still (wants_plain rfl) rfl (still_r1 (mk := Op.load 3) rfl ot (by first | exact ld_blk (k := 0) rfl rfl Tryd.isAgg3 rfl | exact ld_fm cT_len Tryd.isAgg3 (by first | assumption | omega) rfl | exact ld_fm0 cT_len Tryd.isAgg3 (by first | assumption | omega) rfl | exact ld_row (k := 0) cT_len rfl rfl rfl Tryd.isAgg3 (by first | assumption | omega) rfl | exact ld_row0 (k := 0) cT_len rfl rfl rfl Tryd.isAgg3 (by first | assumption | omega) rfl | exact ld_row (k := 1) cT_len rfl rfl rfl Tryd.isAgg3 (by first | assumption | omega) rfl | exact ld_row0 (k := 1) cT_len rfl rfl rfl Tryd.isAgg3 (by first | assumption | omega) rfl | exact ld_i Tryd.isAgg3 rfl)) ?_
          refine OD.callP (wants_plain rfl) rfl rfl rfl Tryd.call20 (hI1) ⟨ot, trivial⟩ ?_
          have hsh := show_num hk2
          have hshl : (showT l[i]).length ≤ 300000 := by rw [hsh]; first | (show (Lib.itoa l[i].n).length ≤ _; omega) | (rw [str_len, cat_size, cat_size]; show 1 + (replS 39 [39, 39] l[i].s).size + 1 ≤ _; omega) | (rw [str_len]; omega)
          refine OD.call (wants_plain rfl) rfl rfl rfl Tryd.call19 (wstr_vc b4 cpr adr p acc Sr ((⟨(Lib.itoa l[i].n).toArray⟩ : ByteArray)) hp hor (by rw [← str_len]; show acc.length + (Lib.itoa l[i].n).length ≤ _; omega)) ⟨ot, ot, trivial⟩ (perm_r11 (A := [_])) ?_
          rintro _ S32 ⟨rfl, ad32, cp32, Sq32, ho32, rfl⟩
          unfold bldB
          refine OD.perm (perm_q11 (A := [_])) ?_
          refine OD.wk (Wk.as_ (n := 46) (l' := [(4, _), (11, _), (12, _), (13, _)]) (S' := (⟨b6, 30, 3, [_, _, _]⟩ :: ⟨b4, 51, 2, [_, _]⟩ :: Sq32)) rfl rfl ⟨lk, lk, lk, lk, trivial⟩) ?_
          refine OD.nil ?_
          refine CD.seq ?_
          refine CD.region ?_
          refine OD.call (wants_plain rfl) rfl rfl rfl Tryd.call22 (wbyte_vc b4 cp32 ad32 _ (acc ++ ((⟨(Lib.itoa l[i].n).toArray⟩ : ByteArray)).data.toList) Sq32 32 (.inr rfl) ho32 (by rw [← hsh]; simp only [List.length_append]; omega)) ⟨ot, opd_const, trivial⟩ (perm_r11 (A := [_])) ?_
          rintro _ S41 ⟨rfl, ad41, cp41, Sq41, ho41, rfl⟩
          unfold bldB
          refine OD.perm (perm_q11 (A := [_])) ?_
          rw [← hsh] at *
          refine OD.wk (Wk.as_ (n := 46) (l' := [(4, _), (11, _), (12, _), (13, _)]) (S' := (⟨b6, 30, 3, [_, _, _]⟩ :: ⟨b4, 51, 2, [_, _]⟩ :: Sq41)) rfl rfl ⟨lk, lk, lk, lk, trivial⟩) ?_
          refine OD.nil ?_
          refine CD.seq ?_
          refine CD.region ?_
          refine OD.call (wants_plain rfl) rfl rfl rfl Tryd.call23 (len_vc b4 _ cp41 ad41 (some ⟨b4, 0, none⟩)) ⟨ot, trivial⟩ (perm_one (k := 1) rfl) ?_
          rintro _ S42 ⟨rfl, rfl⟩
          unfold bldB
          refine OD.still (wants_plain rfl) rfl (still_bin rfl ot opd_const bin_gtr) ?_
          refine OD.wk (Wk.as_ (n := 46) (l' := [(4, _), (11, _), (12, _), (13, _), (43, _)]) (S' := (⟨b4, 51, 2, [_, _]⟩ :: ⟨b6, 30, 3, [_, _, _]⟩ :: Sq41)) rfl rfl ⟨lk, lk, lk, lk, lk, trivial⟩) ?_
          refine OD.nil ?_
          refine CD.cond ot (fun hc5 => ?_) (fun hc5 => ?_)
          · have hc5' := hc5
            (try simp only [decide_eq_true_eq, decide_eq_false_iff_not, beq_iff_eq, bne_iff_ne, Bool.not_eq_true', Bool.not_eq_false', Bool.not_eq_true, Bool.not_eq_false, beq_eq_false_iff_ne, ne_eq, bne_eq_false_iff_eq, Bool.and_eq_true, Bool.or_eq_true, Bool.not_not, Bool.and_eq_false_iff, Bool.or_eq_false_iff, Int.not_lt, Int.not_le] at hc5')
            have hlg : 400 < (acc ++ showT l[i] ++ [32]).length := by omega
            have hend := join_long (r := l.drop (i + 1)) hc0 hlg
            rw [hj] at hend
            refine CD.seq ?_
            refine CD.region ?_
            refine OD.still (wants_plain rfl) rfl (still_as rfl opd_const) ?_
            refine OD.still (wants_plain rfl) rfl (still_as rfl opd_const) ?_
            refine OD.wk (Wk.as_ (n := 46) (l' := [(2, _), (3, _)]) (S' := (⟨b4, 51, 2, [_, _]⟩ :: ⟨b6, 30, 3, [_, _, _]⟩ :: Sq41)) rfl rfl ⟨lk, lk, trivial⟩) ?_
            refine OD.nil ?_
            refine CD.ret ?_
            refine ⟨.inr rfl, _, [], List.nil_sublist _, ret_two Tryd.results12 (res_tmp (Nat.le_of_ble_eq_true rfl) lk) (res_tmp (Nat.le_of_ble_eq_true rfl) lk), ?_⟩
            first | (rw [hbig]; exact ⟨rfl, rfl⟩) | (rw [hjf, hend]; exact ⟨rfl, rfl⟩)
          · have hc5' := hc5
            (try simp only [decide_eq_true_eq, decide_eq_false_iff_not, beq_iff_eq, bne_iff_ne, Bool.not_eq_true', Bool.not_eq_false', Bool.not_eq_true, Bool.not_eq_false, beq_eq_false_iff_ne, ne_eq, bne_eq_false_iff_eq, Bool.and_eq_true, Bool.or_eq_true, Bool.not_not, Bool.and_eq_false_iff, Bool.or_eq_false_iff, Int.not_lt, Int.not_le] at hc5')
            have hle : (acc ++ showT l[i] ++ [32]).length ≤ 400 := by omega
            have hnx := join_more (r := l.drop (i + 1)) hc0 hle
            refine CD.skip ?_
            refine CD.region ?_
            refine OD.still (wants_plain rfl) rfl (still_bin rfl ot opd_const (bin_add (wrap_i64 (by omega) (by omega)))) ?_
            refine OD.still (wants_plain rfl) rfl (still_mv rfl ot) ?_
            refine OD.wk (Wk.as_ (n := 46) (l' := [(4, _), (11, _), (12, _), (13, _)]) (S' := (⟨b4, 51, 2, [_, _]⟩ :: ⟨b6, 30, 3, [_, _, _]⟩ :: Sq41)) rfl rfl ⟨lk, lk, lk, lk, trivial⟩) ?_
            refine OD.nil ?_
            refine ⟨((i + 1), (acc ++ showT l[i] ++ [32]), (some ⟨b4, 0, none⟩), ad41, cp41, Sq41), ⟨46, [(4, .v (.pointer (some ⟨b4, 0, none⟩))), (11, .list 3 (l.flatMap cT) l.length), (12, .v (.int .i64 (l.length : Nat))), (13, .v (.int .i64 (((i + 1)) : Nat)))], ((⟨b4, 51, 2, [.v (.pointer ((some ⟨b4, 0, none⟩))), .v (.slice ad41 ((acc ++ showT l[i] ++ [32])).length cp41)]⟩ : Blk) :: Sq41)⟩, ?_, Wk.asS (n := 46) rfl (by repeat (first | exact List.Sublist.refl _ | apply List.Sublist.cons_cons | apply List.Sublist.cons)) ⟨(by (repeat (first | exact look_hit | (apply look_at; focus (first | rfl | (simp; done) | (congr 2; omega))) | (apply look_miss; focus rfl))); done), (by (repeat (first | exact look_hit | (apply look_at; focus (first | rfl | (simp; done) | (congr 2; omega))) | (apply look_miss; focus rfl))); done), (by (repeat (first | exact look_hit | (apply look_at; focus (first | rfl | (simp; done) | (congr 2; omega))) | (apply look_miss; focus rfl))); done), (by (repeat (first | exact look_hit | (apply look_at; focus (first | rfl | (simp; done) | (congr 2; omega))) | (apply look_miss; focus rfl))); done), trivial⟩, (by omega), (hnx.symm.trans hj), hle, (.inr rfl), ho41, rfl⟩
            first | omega | (simp only []; omega)
        · have hc3' := hc3
          (try simp only [decide_eq_true_eq, decide_eq_false_iff_not, beq_iff_eq, bne_iff_ne, Bool.not_eq_true', Bool.not_eq_false', Bool.not_eq_true, Bool.not_eq_false, beq_eq_false_iff_ne, ne_eq, bne_eq_false_iff_eq, Bool.and_eq_true, Bool.or_eq_true, Bool.not_not, Bool.and_eq_false_iff, Bool.or_eq_false_iff, Int.not_lt, Int.not_le] at hc3')
          have hk2 : l[i].k ≠ 2 := by simpa using hc3
          refine CD.seq ?_
          refine CD.region ?_
          refine OD.still (wants_plain rfl) rfl (still_bin rfl ot opd_const bin_eql) ?_
          refine OD.still (wants_plain rfl) rfl (still_as rfl ot) ?_
          refine OD.wk (Wk.as_ (n := 46) (l' := [(4, _), (6, _), (11, _), (12, _), (13, _), (33, _)]) (S' := (⟨b6, 30, 3, [_, _, _]⟩ :: ⟨b4, 51, 2, [_, _]⟩ :: Sr)) rfl rfl ⟨lk, lk, lk, lk, lk, lk, trivial⟩) ?_
          refine OD.nil ?_
          refine CD.cond ot (fun hc4 => ?_) (fun hc4 => ?_)
          · have hc4' := hc4
            (try simp only [decide_eq_true_eq, decide_eq_false_iff_not, beq_iff_eq, bne_iff_ne, Bool.not_eq_true', Bool.not_eq_false', Bool.not_eq_true, Bool.not_eq_false, beq_eq_false_iff_ne, ne_eq, bne_eq_false_iff_eq, Bool.and_eq_true, Bool.or_eq_true, Bool.not_not, Bool.and_eq_false_iff, Bool.or_eq_false_iff, Int.not_lt, Int.not_le] at hc4')
            have hk3 : l[i].k = 3 := by simpa using hc4
            have hel := esc_len l[i].s
            have hes : (replS 39 [39, 39] l[i].s).size ≤ 200000 := by rw [← str_len]; show (escQ l[i].s).length ≤ _; omega
            refine CD.region ?_
            refine OD.still (wants_plain rfl) rfl (still_r1 (mk := fun y => Op.fieldAddr 30 y 1) rfl ot (by first | exact fa_ptr (off := 1) Tryd.runUnderlying30 rfl Tryd.sizeOf9 rfl | exact fa_iptr (off := 1) Tryd.runUnderlying30 rfl Tryd.sizeOf9 rfl)) ?_
            refine OD.still (wants_plain rfl) rfl (still_r1 (mk := Op.load 9) rfl ot (by first | exact ld_blk (k := 0) rfl rfl Tryd.isAgg9 rfl | exact ld_fm cT_len Tryd.isAgg9 (by first | assumption | omega) rfl | exact ld_fm0 cT_len Tryd.isAgg9 (by first | assumption | omega) rfl | exact ld_row (k := 0) cT_len rfl rfl rfl Tryd.isAgg9 (by first | assumption | omega) rfl | exact ld_row0 (k := 0) cT_len rfl rfl rfl Tryd.isAgg9 (by first | assumption | omega) rfl | exact ld_row (k := 1) cT_len rfl rfl rfl Tryd.isAgg9 (by first | assumption | omega) rfl | exact ld_row0 (k := 1) cT_len rfl rfl rfl Tryd.isAgg9 (by first | assumption | omega) rfl | exact ld_i Tryd.isAgg9 rfl)) ?_
            refine OD.callP (wants_plain rfl) rfl rfl rfl Tryd.call21 (repl_vp hG 39 ⟨#[39, 39]⟩ l[i].s (by omega) (by decide)) ⟨ot, opd_const, opd_const, trivial⟩ ?_
            refine OD.still (wants_plain rfl) rfl (still_bin rfl opd_const ot (bin_cat (by show 1 + (replS 39 [39, 39] l[i].s).size ≤ _; omega))) ?_
            refine OD.still (wants_plain rfl) rfl (still_bin rfl ot opd_const (bin_cat (by rw [cat_size]; show 1 + (replS 39 [39, 39] l[i].s).size + 1 ≤ _; omega))) ?_
            have hsh := show_str hk3
            have hshl : (showT l[i]).length ≤ 300000 := by rw [hsh]; first | (show (Lib.itoa l[i].n).length ≤ _; omega) | (rw [str_len, cat_size, cat_size]; show 1 + (replS 39 [39, 39] l[i].s).size + 1 ≤ _; omega) | (rw [str_len]; omega)
            refine OD.call (wants_plain rfl) rfl rfl rfl Tryd.call19 (wstr_vc b4 cpr adr p acc Sr (((⟨#[39]⟩ : ByteArray) ++ replS 39 [39, 39] l[i].s ++ ⟨#[39]⟩)) hp hor (by rw [cat_size, cat_size]; show acc.length + (1 + (replS 39 [39, 39] l[i].s).size + 1) ≤ _; omega)) ⟨ot, ot, trivial⟩ (perm_r11 (A := [_])) ?_
            rintro _ S40 ⟨rfl, ad40, cp40, Sq40, ho40, rfl⟩
            unfold bldB
            refine OD.perm (perm_q11 (A := [_])) ?_
            refine OD.wk (Wk.as_ (n := 46) (l' := [(4, _), (11, _), (12, _), (13, _)]) (S' := (⟨b6, 30, 3, [_, _, _]⟩ :: ⟨b4, 51, 2, [_, _]⟩ :: Sq40)) rfl rfl ⟨lk, lk, lk, lk, trivial⟩) ?_
            refine OD.nil ?_
            refine CD.seq ?_
            refine CD.region ?_
            refine OD.call (wants_plain rfl) rfl rfl rfl Tryd.call22 (wbyte_vc b4 cp40 ad40 _ (acc ++ (((⟨#[39]⟩ : ByteArray) ++ replS 39 [39, 39] l[i].s ++ ⟨#[39]⟩)).data.toList) Sq40 32 (.inr rfl) ho40 (by rw [← hsh]; simp only [List.length_append]; omega)) ⟨ot, opd_const, trivial⟩ (perm_r11 (A := [_])) ?_
            rintro _ S41 ⟨rfl, ad41, cp41, Sq41, ho41, rfl⟩
            unfold bldB
            refine OD.perm (perm_q11 (A := [_])) ?_
            rw [← hsh] at *
            refine OD.wk (Wk.as_ (n := 46) (l' := [(4, _), (11, _), (12, _), (13, _)]) (S' := (⟨b6, 30, 3, [_, _, _]⟩ :: ⟨b4, 51, 2, [_, _]⟩ :: Sq41)) rfl rfl ⟨lk, lk, lk, lk, trivial⟩) ?_
            refine OD.nil ?_
            refine CD.seq ?_
            refine CD.region ?_
            refine OD.call (wants_plain rfl) rfl rfl rfl Tryd.call23 (len_vc b4 _ cp41 ad41 (some ⟨b4, 0, none⟩)) ⟨ot, trivial⟩ (perm_one (k := 1) rfl) ?_
            rintro _ S42 ⟨rfl, rfl⟩
            unfold bldB
            refine OD.still (wants_plain rfl) rfl (still_bin rfl ot opd_const bin_gtr) ?_
            refine OD.wk (Wk.as_ (n := 46) (l' := [(4, _), (11, _), (12, _), (13, _), (43, _)]) (S' := (⟨b4, 51, 2, [_, _]⟩ :: ⟨b6, 30, 3, [_, _, _]⟩ :: Sq41)) rfl rfl ⟨lk, lk, lk, lk, lk, trivial⟩) ?_
            refine OD.nil ?_
            refine CD.cond ot (fun hc5 => ?_) (fun hc5 => ?_)
            · have hc5' := hc5
              (try simp only [decide_eq_true_eq, decide_eq_false_iff_not, beq_iff_eq, bne_iff_ne, Bool.not_eq_true', Bool.not_eq_false', Bool.not_eq_true, Bool.not_eq_false, beq_eq_false_iff_ne, ne_eq, bne_eq_false_iff_eq, Bool.and_eq_true, Bool.or_eq_true, Bool.not_not, Bool.and_eq_false_iff, Bool.or_eq_false_iff, Int.not_lt, Int.not_le] at hc5')
              have hlg : 400 < (acc ++ showT l[i] ++ [32]).length := by omega
              have hend := join_long (r := l.drop (i + 1)) hc0 hlg
              rw [hj] at hend
              refine CD.seq ?_
              refine CD.region ?_
              refine OD.still (wants_plain rfl) rfl (still_as rfl opd_const) ?_
              refine OD.still (wants_plain rfl) rfl (still_as rfl opd_const) ?_
              refine OD.wk (Wk.as_ (n := 46) (l' := [(2, _), (3, _)]) (S' := (⟨b4, 51, 2, [_, _]⟩ :: ⟨b6, 30, 3, [_, _, _]⟩ :: Sq41)) rfl rfl ⟨lk, lk, trivial⟩) ?_
              refine OD.nil ?_
              refine CD.ret ?_
              refine ⟨.inr rfl, _, [], List.nil_sublist _, ret_two Tryd.results12 (res_tmp (Nat.le_of_ble_eq_true rfl) lk) (res_tmp (Nat.le_of_ble_eq_true rfl) lk), ?_⟩
              first | (rw [hbig]; exact ⟨rfl, rfl⟩) | (rw [hjf, hend]; exact ⟨rfl, rfl⟩)
            · have hc5' := hc5
              (try simp only [decide_eq_true_eq, decide_eq_false_iff_not, beq_iff_eq, bne_iff_ne, Bool.not_eq_true', Bool.not_eq_false', Bool.not_eq_true, Bool.not_eq_false, beq_eq_false_iff_ne, ne_eq, bne_eq_false_iff_eq, Bool.and_eq_true, Bool.or_eq_true, Bool.not_not, Bool.and_eq_false_iff, Bool.or_eq_false_iff, Int.not_lt, Int.not_le] at hc5')
              have hle : (acc ++ showT l[i] ++ [32]).length ≤ 400 := by omega
              have hnx := join_more (r := l.drop (i + 1)) hc0 hle
              refine CD.skip ?_
              refine CD.region ?_
              refine OD.still (wants_plain rfl) rfl (still_bin rfl ot opd_const (bin_add (wrap_i64 (by omega) (by omega)))) ?_
              refine OD.still (wants_plain rfl) rfl (still_mv rfl ot) ?_
              refine OD.wk (Wk.as_ (n := 46) (l' := [(4, _), (11, _), (12, _), (13, _)]) (S' := (⟨b4, 51, 2, [_, _]⟩ :: ⟨b6, 30, 3, [_, _, _]⟩ :: Sq41)) rfl rfl ⟨lk, lk, lk, lk, trivial⟩) ?_
              refine OD.nil ?_
              refine ⟨((i + 1), (acc ++ showT l[i] ++ [32]), (some ⟨b4, 0, none⟩), ad41, cp41, Sq41), ⟨46, [(4, .v (.pointer (some ⟨b4, 0, none⟩))), (11, .list 3 (l.flatMap cT) l.length), (12, .v (.int .i64 (l.length : Nat))), (13, .v (.int .i64 (((i + 1)) : Nat)))], ((⟨b4, 51, 2, [.v (.pointer ((some ⟨b4, 0, none⟩))), .v (.slice ad41 ((acc ++ showT l[i] ++ [32])).length cp41)]⟩ : Blk) :: Sq41)⟩, ?_, Wk.asS (n := 46) rfl (by repeat (first | exact List.Sublist.refl _ | apply List.Sublist.cons_cons | apply List.Sublist.cons)) ⟨(by (repeat (first | exact look_hit | (apply look_at; focus (first | rfl | (simp; done) | (congr 2; omega))) | (apply look_miss; focus rfl))); done), (by (repeat (first | exact look_hit | (apply look_at; focus (first | rfl | (simp; done) | (congr 2; omega))) | (apply look_miss; focus rfl))); done), (by (repeat (first | exact look_hit | (apply look_at; focus (first | rfl | (simp; done) | (congr 2; omega))) | (apply look_miss; focus rfl))); done), (by (repeat (first | exact look_hit | (apply look_at; focus (first | rfl | (simp; done) | (congr 2; omega))) | (apply look_miss; focus rfl))); done), trivial⟩, (by omega), (hnx.symm.trans hj), hle, (.inr rfl), ho41, rfl⟩
              first | omega | (simp only []; omega)
          · have hc4' := hc4
            (try simp only [decide_eq_true_eq, decide_eq_false_iff_not, beq_iff_eq, bne_iff_ne, Bool.not_eq_true', Bool.not_eq_false', Bool.not_eq_true, Bool.not_eq_false, beq_eq_false_iff_ne, ne_eq, bne_eq_false_iff_eq, Bool.and_eq_true, Bool.or_eq_true, Bool.not_not, Bool.and_eq_false_iff, Bool.or_eq_false_iff, Int.not_lt, Int.not_le] at hc4')
            have hk3 : l[i].k ≠ 3 := by simpa using hc4
            refine CD.region ?_
            refine OD.still (wants_plain rfl) rfl (still_r1 (mk := fun y => Op.fieldAddr 30 y 1) rfl ot (by first | exact fa_ptr (off := 1) Tryd.runUnderlying30 rfl Tryd.sizeOf9 rfl | exact fa_iptr (off := 1) Tryd.runUnderlying30 rfl Tryd.sizeOf9 rfl)) ?_
            refine OD.still (wants_plain rfl) rfl (still_r1 (mk := Op.load 9) rfl ot (by first | exact ld_blk (k := 0) rfl rfl Tryd.isAgg9 rfl | exact ld_fm cT_len Tryd.isAgg9 (by first | assumption | omega) rfl | exact ld_fm0 cT_len Tryd.isAgg9 (by first | assumption | omega) rfl | exact ld_row (k := 0) cT_len rfl rfl rfl Tryd.isAgg9 (by first | assumption | omega) rfl | exact ld_row0 (k := 0) cT_len rfl rfl rfl Tryd.isAgg9 (by first | assumption | omega) rfl | exact ld_row (k := 1) cT_len rfl rfl rfl Tryd.isAgg9 (by first | assumption | omega) rfl | exact ld_row0 (k := 1) cT_len rfl rfl rfl Tryd.isAgg9 (by first | assumption | omega) rfl | exact ld_i Tryd.isAgg9 rfl)) ?_
            have hsh := show_txt hk2 hk3
            have hshl : (showT l[i]).length ≤ 300000 := by rw [hsh]; first | (show (Lib.itoa l[i].n).length ≤ _; omega) | (rw [str_len, cat_size, cat_size]; show 1 + (replS 39 [39, 39] l[i].s).size + 1 ≤ _; omega) | (rw [str_len]; omega)
            refine OD.call (wants_plain rfl) rfl rfl rfl Tryd.call19 (wstr_vc b4 cpr adr p acc Sr (l[i].s) hp hor (by omega)) ⟨ot, ot, trivial⟩ (perm_r11 (A := [_])) ?_
            rintro _ S26 ⟨rfl, ad26, cp26, Sq26, ho26, rfl⟩
            unfold bldB
            refine OD.perm (perm_q11 (A := [_])) ?_
            refine OD.wk (Wk.as_ (n := 46) (l' := [(4, _), (11, _), (12, _), (13, _)]) (S' := (⟨b6, 30, 3, [_, _, _]⟩ :: ⟨b4, 51, 2, [_, _]⟩ :: Sq26)) rfl rfl ⟨lk, lk, lk, lk, trivial⟩) ?_
            refine OD.nil ?_
            refine CD.seq ?_
            refine CD.region ?_
            refine OD.call (wants_plain rfl) rfl rfl rfl Tryd.call22 (wbyte_vc b4 cp26 ad26 _ (acc ++ (l[i].s).data.toList) Sq26 32 (.inr rfl) ho26 (by rw [← hsh]; simp only [List.length_append]; omega)) ⟨ot, opd_const, trivial⟩ (perm_r11 (A := [_])) ?_
            rintro _ S41 ⟨rfl, ad41, cp41, Sq41, ho41, rfl⟩
            unfold bldB
            refine OD.perm (perm_q11 (A := [_])) ?_
            rw [← hsh] at *
            refine OD.wk (Wk.as_ (n := 46) (l' := [(4, _), (11, _), (12, _), (13, _)]) (S' := (⟨b6, 30, 3, [_, _, _]⟩ :: ⟨b4, 51, 2, [_, _]⟩ :: Sq41)) rfl rfl ⟨lk, lk, lk, lk, trivial⟩) ?_
            refine OD.nil ?_
            refine CD.seq ?_
            refine CD.region ?_
            refine OD.call (wants_plain rfl) rfl rfl rfl Tryd.call23 (len_vc b4 _ cp41 ad41 (some ⟨b4, 0, none⟩)) ⟨ot, trivial⟩ (perm_one (k := 1) rfl) ?_
            rintro _ S42 ⟨rfl, rfl⟩
            unfold bldB
            refine OD.still (wants_plain rfl) rfl (still_bin rfl ot opd_const bin_gtr) ?_
            refine OD.wk (Wk.as_ (n := 46) (l' := [(4, _), (11, _), (12, _), (13, _), (43, _)]) (S' := (⟨b4, 51, 2, [_, _]⟩ :: ⟨b6, 30, 3, [_, _, _]⟩ :: Sq41)) rfl rfl ⟨lk, lk, lk, lk, lk, trivial⟩) ?_
            refine OD.nil ?_
            refine CD.cond ot (fun hc5 => ?_) (fun hc5 => ?_)
            · have hc5' := hc5
              (try simp only [decide_eq_true_eq, decide_eq_false_iff_not, beq_iff_eq, bne_iff_ne, Bool.not_eq_true', Bool.not_eq_false', Bool.not_eq_true, Bool.not_eq_false, beq_eq_false_iff_ne, ne_eq, bne_eq_false_iff_eq, Bool.and_eq_true, Bool.or_eq_true, Bool.not_not, Bool.and_eq_false_iff, Bool.or_eq_false_iff, Int.not_lt, Int.not_le] at hc5')
              have hlg : 400 < (acc ++ showT l[i] ++ [32]).length := by omega
              have hend := join_long (r := l.drop (i + 1)) hc0 hlg
              rw [hj] at hend
              refine CD.seq ?_
              refine CD.region ?_
              refine OD.still (wants_plain rfl) rfl (still_as rfl opd_const) ?_
              refine OD.still (wants_plain rfl) rfl (still_as rfl opd_const) ?_
              refine OD.wk (Wk.as_ (n := 46) (l' := [(2, _), (3, _)]) (S' := (⟨b4, 51, 2, [_, _]⟩ :: ⟨b6, 30, 3, [_, _, _]⟩ :: Sq41)) rfl rfl ⟨lk, lk, trivial⟩) ?_
              refine OD.nil ?_
              refine CD.ret ?_
              refine ⟨.inr rfl, _, [], List.nil_sublist _, ret_two Tryd.results12 (res_tmp (Nat.le_of_ble_eq_true rfl) lk) (res_tmp (Nat.le_of_ble_eq_true rfl) lk), ?_⟩
              first | (rw [hbig]; exact ⟨rfl, rfl⟩) | (rw [hjf, hend]; exact ⟨rfl, rfl⟩)
            · have hc5' := hc5
              (try simp only [decide_eq_true_eq, decide_eq_false_iff_not, beq_iff_eq, bne_iff_ne, Bool.not_eq_true', Bool.not_eq_false', Bool.not_eq_true, Bool.not_eq_false, beq_eq_false_iff_ne, ne_eq, bne_eq_false_iff_eq, Bool.and_eq_true, Bool.or_eq_true, Bool.not_not, Bool.and_eq_false_iff, Bool.or_eq_false_iff, Int.not_lt, Int.not_le] at hc5')
              have hle : (acc ++ showT l[i] ++ [32]).length ≤ 400 := by omega
              have hnx := join_more (r := l.drop (i + 1)) hc0 hle
              refine CD.skip ?_
              refine CD.region ?_
              refine OD.still (wants_plain rfl) rfl (still_bin rfl ot opd_const (bin_add (wrap_i64 (by omega) (by omega)))) ?_
              refine OD.still (wants_plain rfl) rfl (still_mv rfl ot) ?_
              refine OD.wk (Wk.as_ (n := 46) (l' := [(4, _), (11, _), (12, _), (13, _)]) (S' := (⟨b4, 51, 2, [_, _]⟩ :: ⟨b6, 30, 3, [_, _, _]⟩ :: Sq41)) rfl rfl ⟨lk, lk, lk, lk, trivial⟩) ?_
              refine OD.nil ?_
              refine ⟨((i + 1), (acc ++ showT l[i] ++ [32]), (some ⟨b4, 0, none⟩), ad41, cp41, Sq41), ⟨46, [(4, .v (.pointer (some ⟨b4, 0, none⟩))), (11, .list 3 (l.flatMap cT) l.length), (12, .v (.int .i64 (l.length : Nat))), (13, .v (.int .i64 (((i + 1)) : Nat)))], ((⟨b4, 51, 2, [.v (.pointer ((some ⟨b4, 0, none⟩))), .v (.slice ad41 ((acc ++ showT l[i] ++ [32])).length cp41)]⟩ : Blk) :: Sq41)⟩, ?_, Wk.asS (n := 46) rfl (by repeat (first | exact List.Sublist.refl _ | apply List.Sublist.cons_cons | apply List.Sublist.cons)) ⟨(by (repeat (first | exact look_hit | (apply look_at; focus (first | rfl | (simp; done) | (congr 2; omega))) | (apply look_miss; focus rfl))); done), (by (repeat (first | exact look_hit | (apply look_at; focus (first | rfl | (simp; done) | (congr 2; omega))) | (apply look_miss; focus rfl))); done), (by (repeat (first | exact look_hit | (apply look_at; focus (first | rfl | (simp; done) | (congr 2; omega))) | (apply look_miss; focus rfl))); done), (by (repeat (first | exact look_hit | (apply look_at; focus (first | rfl | (simp; done) | (congr 2; omega))) | (apply look_miss; focus rfl))); done), trivial⟩, (by omega), (hnx.symm.trans hj), hle, (.inr rfl), ho41, rfl⟩
              first | omega | (simp only []; omega)
    · have hc1' := hc1
      (try simp only [decide_eq_true_eq, decide_eq_false_iff_not, beq_iff_eq, bne_iff_ne, Bool.not_eq_true', Bool.not_eq_false', Bool.not_eq_true, Bool.not_eq_false, beq_eq_false_iff_ne, ne_eq, bne_eq_false_iff_eq, Bool.and_eq_true, Bool.or_eq_true, Bool.not_not, Bool.and_eq_false_iff, Bool.or_eq_false_iff, Int.not_lt, Int.not_le] at hc1')
      have hie : i = l.length := by omega
      have hend : joinG l [] = (acc, 0) := by rw [← hj, hie, List.drop_length]; rfl
      refine CD.exit ?_
      refine CD.seq ?_
      refine CD.region ?_
      refine OD.bldString (p := p) (ad := adr) (n := acc.length) (cap := cpr) (Sq := Sr) (R := []) (bs := acc) (wants_plain rfl) rfl rfl Tryd.call24 hS00 ot (by rw [List.append_nil]; exact List.Perm.refl _) hp hor rfl (fun B w hB hw => (Tryd.Builder_String_any_f B b4 acc w hB hw).mono fun ex w' ⟨g1, g2, g3⟩ => ⟨g1, g3⟩) rfl rfl ?_
      refine OD.still (wants_plain rfl) rfl (still_as rfl ot) ?_
      refine OD.still (wants_plain rfl) rfl (still_as rfl opd_const) ?_
      refine OD.wk (Wk.as_ (n := 46) (l' := [(2, _), (3, _)]) (S' := []) rfl rfl ⟨lk, lk, trivial⟩) ?_
      refine OD.nil ?_
      refine CD.ret ?_
      refine ⟨.inr rfl, _, [], List.nil_sublist _, ret_two Tryd.results12 (res_tmp (Nat.le_of_ble_eq_true rfl) lk) (res_tmp (Nat.le_of_ble_eq_true rfl) lk), ?_⟩
      first | (rw [hbig]; exact ⟨rfl, rfl⟩) | (rw [hjf, hend]; exact ⟨rfl, rfl⟩)

end Go.Proofs.YtdlcfkkkjklanaaDoor.Lx

namespace Go.Proofs.YtdlcfkkkjklanaaDoor.Lx
open Go.RowKit V Go.Proofs.YtdlcfkkkjklanaaDoor.Nm Go.Proofs.YtdlcfkkkjklanaaDoor.Pk Go.Proofs.YtdlcfkkkjklanaaDoor.Bs Go.Proofs.YtdlcfkkkjklanaaDoor.Rp
set_option linter.unusedVariables false
set_option linter.unusedSimpArgs false

/-! ### LexMany -/
def comT : Tk := ⟨4, ⟨#[44]⟩, 0⟩
theorem rep_cons (j : Nat) (c : UInt8) : List.replicate (j + 1) c = c :: List.replicate j c := rfl
theorem com_one (r : List UInt8) : oneF (44 :: r) = (comT, 1, 0) := one_solo (by decide)
theorem com_few : ∀ (j n a : Nat) (acc : List Tk), acc.length + j ≤ 100 → j < n → cutG n (List.replicate j 44) a acc = (acc ++ List.replicate j comT, 0, 0)
  | 0, n + 1, a, acc, _, _ => by rw [show List.replicate 0 (44 : UInt8) = [] from rfl, cut_stop]; simp
  | j + 1, n + 1, a, acc, h, hn => by
    rw [rep_cons, cut_more rfl (by decide) (by omega) (com_one _)]
    show cutG n (List.replicate j 44) (a + 1) (acc ++ [comT]) = _
    rw [com_few j n (a + 1) (acc ++ [comT]) (by simp; omega) (by omega)]
    simp [List.replicate_succ]
theorem com_many : ∀ (j n a : Nat) (acc : List Tk), acc.length ≤ 100 → 100 < acc.length + j → j < n → cutG n (List.replicate j 44) a acc = ([], a + (100 - acc.length), 10)
  | 0, n, a, acc, h1, h2, _ => by omega
  | j + 1, n + 1, a, acc, h1, h2, hn => by
    by_cases h : acc.length = 100
    · rw [rep_cons, cut_full (by rw [List.dropWhile_cons]; simp [show blankB 44 = false by decide]) h, List.takeWhile_cons, show blankB 44 = false by decide, h]
      simp
    · rw [rep_cons, cut_more rfl (by decide) h (com_one _)]
      show cutG n (List.replicate j 44) (a + 1) (acc ++ [comT]) = _
      rw [com_many j n (a + 1) (acc ++ [comT]) (by simp; omega) (by simp; omega) (by omega)]
      simp; omega
theorem com_check : checkT comT = 0 := by decide +kernel
theorem com_join : ∀ (j : Nat) (acc : List UInt8), acc.length + 2 * j ≤ 400 → (joinG (List.replicate j comT) acc).1.length = acc.length + 2 * j ∧ (joinG (List.replicate j comT) acc).2 = 0
  | 0, acc, _ => ⟨rfl, rfl⟩
  | j + 1, acc, h => by
    have e : List.replicate (j + 1) comT = comT :: List.replicate j comT := rfl
    have hl : (acc ++ showT comT ++ [32]).length = acc.length + 2 := by rw [List.length_append, List.length_append]; rfl
    rw [e, join_more com_check (by omega)]
    have := com_join j (acc ++ showT comT ++ [32]) (by omega)
    rw [hl] at this
    exact ⟨by rw [this.1]; omega, this.2⟩
theorem many_cut {k : Nat} (hk : k < 300) : cutF (List.replicate k 44) = if k > 100 then ([], 100, 10) else (List.replicate k comT, 0, 0) := by
  unfold cutF
  rw [if_neg (by simp; omega)]
  by_cases h : k > 100
  · rw [if_pos h, com_many k _ 0 [] (by simp) (by simpa using h) (by simp)]; rfl
  · rw [if_neg h, com_few k _ 0 [] (by simpa using h) (by simp)]; rfl
theorem many_join {k : Nat} (h : ¬ k > 100) : (joinF (List.replicate k comT)).1.length = 2 * k ∧ (joinF (List.replicate k comT)).2 = 0 := by
  unfold joinF
  rw [if_neg (by simpa using h)]
  have := com_join k [] (by simp; omega)
  simpa using this
theorem many_full {k : Nat} (h : k > 100) : joinF (List.replicate k comT) = ([], 10) := by
  unfold joinF
  rw [if_pos (by simpa using h)]
theorem many_cut2 {k : Nat} (hk : k < 300) : ∃ ts pl er, cutF (List.replicate k 44) = (ts, pl, er) ∧ (k > 100 → pl = 100 ∧ er = 10) ∧ (¬ k > 100 → ts.length = k ∧ er = 0) := by
  have h := many_cut hk
  by_cases hb : k > 100
  · rw [if_pos hb] at h; exact ⟨_, _, _, h, fun _ => ⟨rfl, rfl⟩, fun h' => absurd hb h'⟩
  · rw [if_neg hb] at h; exact ⟨_, _, _, h, fun h' => absurd h' hb, fun _ => ⟨by simp, rfl⟩⟩
theorem many_join2 (k : Nat) : ∃ jb je, joinF (List.replicate k comT) = (jb, je) ∧ (k > 100 → je = 10) ∧ (¬ k > 100 → jb.length = 2 * k ∧ je = 0) := by
  refine ⟨(joinF (List.replicate k comT)).1, (joinF (List.replicate k comT)).2, rfl, fun h => by rw [many_full h], fun h => many_join h⟩
theorem long_cut : cutF (List.replicate 401 0) = ([], 0, 1) := by unfold cutF; rw [if_pos (by rw [List.length_replicate]; decide)]
theorem cat_end (k : Nat) : (⟨(List.replicate k (44 : UInt8)).toArray⟩ : ByteArray) ++ ⟨#[44]⟩ = ⟨(List.replicate (k + 1) (44 : UInt8)).toArray⟩ := str_ext (by rw [Go.Joins.data_append]; show List.replicate k 44 ++ [44] = List.replicate (k + 1) 44; rw [List.replicate_succ'])
variable {G : List (Nat × List Value)} {m : Int}
theorem places30_Lx5 : ∀ w, ((#[{ name := "Kind", type := 3, offset := 0, embedded := false, tag := "", pkgPath := "", byteOffset := 0 }, { name := "Text", type := 9, offset := 1, embedded := false, tag := "", pkgPath := "", byteOffset := 8 }, { name := "Int", type := 3, offset := 2, embedded := false, tag := "", pkgPath := "", byteOffset := 24 }] : Array Field).mapM fun f => do pure (f.offset, ← sizeOf f.type) : Sem (Array (Nat × Nat))).run Tryd.prog w = .ok #[(0, 1), (1, 1), (2, 1)] w := fun w => by simp [Tryd.sizeOf3, Tryd.sizeOf9]

theorem info5_Lx5 : (Tryd.prog.info? 5).map (fun i => (i.zero, i.size, i.bytes)) = some (some (.int .u8 0), 1, 1) := by kernel_rfl

theorem info30_Lx5 : (Tryd.prog.info? 30).map (fun i => (i.zero, i.size, i.bytes)) = some (some (.agg #[.int .i64 0, .string ⟨#[]⟩, .int .i64 0]), 3, 32) := by kernel_rfl

set_option maxHeartbeats 4000000 in
set_option maxRecDepth 100000 in
theorem many_vp (hm : (0, marksC) ∈ G) (hG : (4, [Value.int .i64 m]) ∈ G) (n : Int) (h1 : -9223372036854775808 ≤ n) (h2 : n ≤ 9223372036854775807) : VP Tryd.prog G 7 [.v (.int .i64 n)] (.v (.bool true)) := by
  refine VC.body Tryd.func7 rfl Tryd.ntmps7 (Nat.le_of_ble_eq_true rfl) fun X0 w0 S00 => ?_
  have hmx : maxLen = 9223372036854775807 := rfl
  have hpb := pickedF_bd n (by decide : (1 : Int) ≤ 300)
  obtain ⟨k, hk⟩ := Int.eq_ofNat_of_zero_le hpb.1
  have hkk : k < 300 := by omega
  have hpv := picked_vp G n 300 h1 h2 (by decide)
  rw [hk] at hpv
  have jv := join_vp hm hG (List.replicate k comT) (by rw [List.length_replicate]; omega) (fun x hx => by rw [List.eq_of_mem_replicate hx]; show 1 ≤ 100000; decide) (fun x hx h => by rw [List.eq_of_mem_replicate hx] at h; exact absurd h (by show ¬ (4 : Int) = 2; decide))
  unfold joinD at jv
  obtain ⟨ts, pl, er, c1, hA, hB⟩ := many_cut2 hkk
  obtain ⟨jb, je, c2, hC, hD⟩ := many_join2 k
  rw [c2] at jv
  have v1 := cut_vp hm (⟨(List.replicate k (44 : UInt8)).toArray⟩ : ByteArray) (by rw [← str_len]; show (List.replicate k (44 : UInt8)).length ≤ _; rw [List.length_replicate]; omega) (fun h => by rw [show (⟨(List.replicate k (44 : UInt8)).toArray⟩ : ByteArray).data.toList = List.replicate k 44 from rfl, c1] at h; have h : er = 5 := h; by_cases hb : k > 100; have := (hA hb).2; omega; have := (hB hb).2; omega)
  rw [show (⟨(List.replicate k (44 : UInt8)).toArray⟩ : ByteArray).data.toList = List.replicate k 44 from rfl, c1] at v1
  have v2 := cut_vp hm (⟨(List.replicate 401 (0 : UInt8)).toArray⟩ : ByteArray) (by rw [← str_len]; show (List.replicate 401 (0 : UInt8)).length ≤ _; rw [List.length_replicate]; omega) (fun h => by rw [show (⟨(List.replicate 401 (0 : UInt8)).toArray⟩ : ByteArray).data.toList = List.replicate 401 0 from rfl, long_cut] at h; simp at h)
  rw [show (⟨(List.replicate 401 (0 : UInt8)).toArray⟩ : ByteArray).data.toList = List.replicate 401 0 from rfl, long_cut] at v2
  unfold cutD at v1 v2
  dsimp only at v1 v2 jv
  refine CD.seq ?_
  refine CD.region ?_
  refine OD.still (wants_plain rfl) rfl (still_as rfl opd_const) ?_
  refine OD.wk (Wk.as_ (n := 84) (l' := [(0, _)]) (S' := []) rfl rfl ⟨lk, trivial⟩) ?_
  refine OD.nil ?_
  refine CD.seq ?_
  refine CD.region ?_
  refine OD.still (wants_plain rfl) rfl (still_mv rfl ot) ?_
  refine OD.callP (wants_plain rfl) rfl rfl rfl Tryd.call9 (hpv) ⟨ot, opd_const, trivial⟩ ?_
  refine OD.still (wants_plain rfl) rfl (still_as rfl ot) ?_
  refine OD.wk (Wk.as_ (n := 84) (l' := [(3, _)]) (S' := []) rfl rfl ⟨lk, trivial⟩) ?_
  refine OD.nil ?_
  refine CD.seq ?_
  refine CD.region ?_
  refine OD.still (wants_plain rfl) rfl (still_as rfl opd_const) ?_
  refine OD.wk (Wk.as_ (n := 84) (l' := [(3, _), (4, _)]) (S' := []) rfl rfl ⟨lk, lk, trivial⟩) ?_
  refine OD.nil ?_
  refine CD.seq ?_
  refine CD.region ?_
  refine OD.still (wants_plain rfl) rfl (still_as rfl opd_const) ?_
  refine OD.wk (Wk.as_ (n := 84) (l' := [(3, _), (4, _), (5, _)]) (S' := ([])) rfl rfl ⟨lk, lk, lk, trivial⟩) ?_
  refine OD.nil ?_
  refine CD.seq ?_
  refine CD.seq ?_
  refine CD.region ?_
  refine OD.still (wants_plain rfl) rfl (still_as rfl opd_const) ?_
  refine OD.wk (Wk.as_ (n := 84) (l' := [(3, _), (4, _), (5, _), (6, _)]) (S' := ([])) rfl rfl ⟨lk, lk, lk, lk, trivial⟩) ?_
  refine OD.nil ?_
  refine CD.block ?_
  refine CD.wk (Wk.asS (n := 84) (l' := [(3, .v (.int .i64 (k : Nat))), (4, .v (.string (⟨(List.replicate (0) (44 : UInt8)).toArray⟩ : ByteArray))), (5, .v (.slice none ((List.replicate (0) comT)).length (0))), (6, .v (.int .i64 ((0) : Nat)))]) (S' := (([]))) rfl (by repeat (first | exact List.Sublist.refl _ | apply List.Sublist.cons_cons | apply List.Sublist.cons)) ⟨(by (repeat (first | exact look_hit | (apply look_at; focus (first | rfl | (simp; done) | (congr 2; omega) | (apply row_eq; exact (List.replicate_succ').symm) | (apply row_eq; simp; done))) | (apply look_miss; focus rfl))); done), (by (repeat (first | exact look_hit | (apply look_at; focus (first | rfl | (simp; done) | (congr 2; omega) | (apply row_eq; exact (List.replicate_succ').symm) | (apply row_eq; simp; done))) | (apply look_miss; focus rfl))); done), (by (repeat (first | exact look_hit | (apply look_at; focus (first | rfl | (simp; done) | (congr 2; omega) | (apply row_eq; exact (List.replicate_succ').symm) | (apply row_eq; simp; done))) | (apply look_miss; focus rfl))); done), (by (repeat (first | exact look_hit | (apply look_at; focus (first | rfl | (simp; done) | (congr 2; omega) | (apply row_eq; exact (List.replicate_succ').symm) | (apply row_eq; simp; done))) | (apply look_miss; focus rfl))); done), trivial⟩) (CD.loop (fun (gh__ : Nat × Option Addr × Nat × List Blk) y__ => match gh__ with | (i, adl, cpl, Sl) => (i ≤ k) ∧ (OwnL 30 3 (((List.replicate i comT)).flatMap cT) ((List.replicate i comT)).length adl cpl Sl) ∧ y__ = (⟨84, [(3, .v (.int .i64 (k : Nat))), (4, .v (.string (⟨(List.replicate i (44 : UInt8)).toArray⟩ : ByteArray))), (5, .v (.slice adl ((List.replicate i comT)).length cpl)), (6, .v (.int .i64 (i : Nat)))], (Sl)⟩ : St)) (fun (gh__ : Nat × Option Addr × Nat × List Blk) => match gh__ with | (i, adl, cpl, Sl) => k - i) (0, none, 0, []) ⟨(Nat.zero_le _), (OwnL.cast ownL_nil (by first | rfl | simp)), rfl⟩ ?_)
  rintro ⟨i, adl, cpl, Sl⟩ _ ⟨hi, hol, rfl⟩
  refine CD.seq ?_
  refine CD.seq ?_
  refine CD.region ?_
  refine OD.still (wants_plain rfl) rfl (still_mv rfl ot) ?_
  refine OD.still (wants_plain rfl) rfl (still_mv rfl ot) ?_
  refine OD.still (wants_plain rfl) rfl (still_bin rfl ot ot bin_lss) ?_
  refine OD.wk (Wk.as_ (n := 84) (l' := [(3, _), (4, _), (5, _), (6, _), (19, _)]) (S' := (Sl)) rfl rfl ⟨lk, lk, lk, lk, lk, trivial⟩) ?_
  refine OD.nil ?_
  refine CD.cond ot (fun hc0 => ?_) (fun hc0 => ?_)
  · have hc0' := hc0
    (try simp only [decide_eq_true_eq, decide_eq_false_iff_not, beq_iff_eq, bne_iff_ne, Bool.not_eq_true', Bool.not_eq_false', Bool.not_eq_true, Bool.not_eq_false, beq_eq_false_iff_ne, ne_eq, bne_eq_false_iff_eq, Bool.and_eq_true, Bool.or_eq_true, Bool.not_not, Bool.and_eq_false_iff, Bool.or_eq_false_iff, Int.not_lt, Int.not_le] at hc0')
    refine CD.skip ?_
    refine CD.seq ?_
    refine CD.block ?_
    refine CD.seq ?_
    refine CD.region ?_
    refine OD.still (wants_plain rfl) rfl (still_mv rfl ot) ?_
    refine OD.still (wants_plain rfl) rfl (still_bin (r := .string (⟨(List.replicate (i + 1) (44 : UInt8)).toArray⟩ : ByteArray)) rfl ot opd_const (by rw [← cat_end]; exact bin_cat (by show (List.replicate i (44 : UInt8)).toArray.size + 1 ≤ _; rw [List.size_toArray, List.length_replicate]; omega))) ?_
    refine OD.still (wants_plain rfl) rfl (still_as rfl ot) ?_
    refine OD.wk (Wk.as_ (n := 84) (l' := [(3, _), (4, _), (5, _), (6, _)]) (S' := (Sl)) rfl rfl ⟨lk, lk, lk, lk, trivial⟩) ?_
    refine OD.nil ?_
    refine CD.region ?_
    refine OD.still (wants_plain rfl) rfl (still_mv rfl ot) ?_
    refine OD.still (wants_plain rfl) rfl (still_bld (pl := [(0, _), (1, _)]) (ds := [_, _, _]) rfl Tryd.zeroValue30 Tryd.runUnderlying30 places30_Lx5 ⟨rfl, opd_const, rfl, opd_const, trivial⟩ rfl rfl) ?_
    refine OD.bldS (pl := [(0, _)]) (zvs := [.int .i64 0, .string ⟨#[]⟩, .int .i64 0]) (ds := [_, _, _]) (wants_plain rfl) rfl rfl Tryd.zeroValue30 Tryd.runUnderlying25 Tryd.sizeOf30 rfl rfl (by kernel_rfl) ⟨rfl, ot, trivial⟩ rfl rfl (fun b26 => ?_)
    refine OD.give (k := 0) (t := 26) (sz := 3) (m := 1) rfl lk rfl rfl rfl (Nat.le_refl _) (by decide) ?_
    refine OD.appendG (ls := ((List.replicate i comT))) (new := [comT]) (Sq := Sl) cT_len cT_one (wants_plain rfl) rfl rfl Tryd.underlying25 info30_Lx5 rfl (by decide) ot hol (perm_r11 (A := [])) ot (by simp) (by simp [maxLen]; omega) (by simp; omega) (fun b27 cp27 h127 h227 => ?_)
    refine OD.perm (perm_q11 (S1 := [⟨b27, 30, cp27 * 3, List.flatMap cT (((List.replicate i comT)) ++ [comT])⟩]) (A := [])) ?_
    refine OD.still (wants_plain rfl) rfl (still_as rfl ot) ?_
    refine OD.wk (Wk.as_ (n := 84) (l' := [(3, _), (4, _), (5, _), (6, _)]) (S' := ([⟨b27, 30, cp27 * 3, List.flatMap cT (((List.replicate i comT)) ++ [comT])⟩])) rfl rfl ⟨lk, lk, lk, lk, trivial⟩) ?_
    refine OD.nil ?_
    refine CD.region ?_
    refine OD.still (wants_plain rfl) rfl (still_mv rfl ot) ?_
    refine OD.still (wants_plain rfl) rfl (still_bin rfl ot opd_const (bin_add (wrap_i64 (by omega) (by omega)))) ?_
    refine OD.still (wants_plain rfl) rfl (still_as rfl ot) ?_
    refine OD.wk (Wk.as_ (n := 84) (l' := [(3, _), (4, _), (5, _), (6, _)]) (S' := ([⟨b27, 30, cp27 * 3, List.flatMap cT (((List.replicate i comT)) ++ [comT])⟩])) rfl rfl ⟨lk, lk, lk, lk, trivial⟩) ?_
    refine OD.nil ?_
    refine ⟨((i + 1), (some ⟨b27, 0, none⟩), cp27, [⟨b27, 30, cp27 * 3, List.flatMap cT (((List.replicate i comT)) ++ [comT])⟩]), ⟨84, [(3, .v (.int .i64 (k : Nat))), (4, .v (.string (⟨(List.replicate ((i + 1)) (44 : UInt8)).toArray⟩ : ByteArray))), (5, .v (.slice ((some ⟨b27, 0, none⟩)) ((List.replicate ((i + 1)) comT)).length cp27)), (6, .v (.int .i64 (((i + 1)) : Nat)))], (([⟨b27, 30, cp27 * 3, List.flatMap cT (((List.replicate i comT)) ++ [comT])⟩]))⟩, ?_, Wk.asS (n := 84) rfl (by repeat (first | exact List.Sublist.refl _ | apply List.Sublist.cons_cons | apply List.Sublist.cons)) ⟨(by (repeat (first | exact look_hit | (apply look_at; focus (first | rfl | (simp; done) | (congr 2; omega) | (apply row_eq; exact (List.replicate_succ').symm) | (apply row_eq; simp; done))) | (apply look_miss; focus rfl))); done), (by (repeat (first | exact look_hit | (apply look_at; focus (first | rfl | (simp; done) | (congr 2; omega) | (apply row_eq; exact (List.replicate_succ').symm) | (apply row_eq; simp; done))) | (apply look_miss; focus rfl))); done), (by (repeat (first | exact look_hit | (apply look_at; focus (first | rfl | (simp; done) | (congr 2; omega) | (apply row_eq; exact (List.replicate_succ').symm) | (apply row_eq; simp; done))) | (apply look_miss; focus rfl))); done), (by (repeat (first | exact look_hit | (apply look_at; focus (first | rfl | (simp; done) | (congr 2; omega) | (apply row_eq; exact (List.replicate_succ').symm) | (apply row_eq; simp; done))) | (apply look_miss; focus rfl))); done), trivial⟩, (by omega), (OwnL.cast (ownL_row h127 h227) (by exact (List.replicate_succ').symm)), rfl⟩
    first | omega | (simp only []; omega)
  · have hc0' := hc0
    (try simp only [decide_eq_true_eq, decide_eq_false_iff_not, beq_iff_eq, bne_iff_ne, Bool.not_eq_true', Bool.not_eq_false', Bool.not_eq_true, Bool.not_eq_false, beq_eq_false_iff_ne, ne_eq, bne_eq_false_iff_eq, Bool.and_eq_true, Bool.or_eq_true, Bool.not_not, Bool.and_eq_false_iff, Bool.or_eq_false_iff, Int.not_lt, Int.not_le] at hc0')
    have hik : i = k := by omega
    subst hik
    refine CD.exit ?_
    refine CD.seq ?_
    refine CD.region ?_
    refine OD.still (wants_plain rfl) rfl (still_mv rfl ot) ?_
    refine OD.callP (wants_plain rfl) rfl rfl rfl Tryd.call10 (v1) ⟨ot, trivial⟩ ?_
    refine OD.still (wants_plain rfl) rfl (still_mv rfl ot) ?_
    refine OD.still (wants_plain rfl) rfl (still_extract rfl ot rfl) ?_
    refine OD.still (wants_plain rfl) rfl (still_extract rfl ot rfl) ?_
    refine OD.still (wants_plain rfl) rfl (still_extract rfl ot rfl) ?_
    refine OD.still (wants_plain rfl) rfl (still_as rfl ot) ?_
    refine OD.still (wants_plain rfl) rfl (still_as rfl ot) ?_
    refine OD.still (wants_plain rfl) rfl (still_as rfl ot) ?_
    refine OD.wk (Wk.as_ (n := 84) (l' := [(3, _), (5, _), (7, _), (8, _), (9, _)]) (S' := (Sl)) rfl rfl ⟨lk, lk, lk, lk, lk, trivial⟩) ?_
    refine OD.nil ?_
    refine CD.seq ?_
    refine CD.region ?_
    refine OD.still (wants_plain rfl) rfl (still_mv rfl ot) ?_
    refine OD.giveL (t := 35) (Sq := Sl) lk hol (fm_len cT_len _) (perm_r11 (A := [])) ?_
    refine OD.callP (wants_plain rfl) rfl rfl rfl Tryd.call12 (jv) ⟨ot, trivial⟩ ?_
    refine OD.still (wants_plain rfl) rfl (still_mv rfl ot) ?_
    refine OD.still (wants_plain rfl) rfl (still_extract rfl ot rfl) ?_
    refine OD.still (wants_plain rfl) rfl (still_extract rfl ot rfl) ?_
    refine OD.still (wants_plain rfl) rfl (still_as rfl ot) ?_
    refine OD.still (wants_plain rfl) rfl (still_as rfl ot) ?_
    refine OD.wk (Wk.as_ (n := 84) (l' := [(3, _), (7, _), (8, _), (9, _), (10, _), (11, _)]) (S' := []) rfl rfl ⟨lk, lk, lk, lk, lk, lk, trivial⟩) ?_
    refine OD.nil ?_
    refine CD.seq ?_
    refine CD.region ?_
    refine OD.make (g := cB) (a := (0 : UInt8)) (n := 401) rfl cB_len (wants_plain rfl) rfl rfl Tryd.underlying24 info5_Lx5 rfl (by decide) opd_const opd_const (by omega) (by decide) (fun b40 => ?_)
    refine OD.perm (perm_q11 (S1 := [⟨b40, 5, 401 * 1, List.flatMap cB (List.replicate 401 (0 : UInt8))⟩]) (A := [])) ?_
    refine OD.giveL (t := 40) (Sq := [⟨b40, 5, 401 * 1, List.flatMap cB (List.replicate 401 (0 : UInt8))⟩]) lk (ownL_row (g := cB) (sz := 1) (e := 5) (ls := List.replicate 401 (0 : UInt8)) (by simp) (show 401 ≤ maxLen by decide)) (fm_len cB_len _) (perm_r11 (A := [])) ?_
    first | refine OD.still (wants_plain rfl) rfl (still_ofBytes rfl ot Tryd.underlying24 Tryd.underlying5 Tryd.underlying9) ?_ | refine OD.still (wants_plain rfl) rfl (still_ofBytesF rfl ot Tryd.underlying24 Tryd.underlying5 Tryd.underlying9) ?_
    refine OD.callP (wants_plain rfl) rfl rfl rfl Tryd.call10 (v2) ⟨ot, trivial⟩ ?_
    refine OD.still (wants_plain rfl) rfl (still_mv rfl ot) ?_
    refine OD.still (wants_plain rfl) rfl (still_extract rfl ot rfl) ?_
    refine OD.still (wants_plain rfl) rfl (still_extract rfl ot rfl) ?_
    refine OD.still (wants_plain rfl) rfl (still_extract rfl ot rfl) ?_
    refine OD.still (wants_plain rfl) rfl (still_as rfl ot) ?_
    refine OD.still (wants_plain rfl) rfl (still_as rfl ot) ?_
    refine OD.still (wants_plain rfl) rfl (still_as rfl ot) ?_
    refine OD.wk (Wk.as_ (n := 84) (l' := [(3, _), (7, _), (8, _), (9, _), (10, _), (11, _), (12, _), (14, _)]) (S' := []) rfl rfl ⟨lk, lk, lk, lk, lk, lk, lk, lk, trivial⟩) ?_
    refine OD.nil ?_
    refine CD.seq ?_
    refine CD.seq ?_
    refine CD.region ?_
    refine OD.still (wants_plain rfl) rfl (still_mv rfl ot) ?_
    refine OD.still (wants_plain rfl) rfl (still_bin rfl ot opd_const bin_neq) ?_
    refine OD.still (wants_plain rfl) rfl (still_mv rfl ot) ?_
    refine OD.split (t := 48) lk (fun hg48 => ?_) (fun hg48 => ?_)
    · exact absurd hg48 (by simp)
    · have hg48' := hg48; (try simp only [decide_eq_true_eq, decide_eq_false_iff_not, beq_iff_eq, bne_iff_ne, Bool.not_eq_true', Bool.not_eq_false', Bool.not_eq_true, Bool.not_eq_false, beq_eq_false_iff_ne, ne_eq, bne_eq_false_iff_eq, Bool.and_eq_true, Bool.or_eq_true, Bool.not_not] at hg48')
      refine OD.still (wants_T rfl rfl rfl lk (by first | rfl | assumption)) rfl (still_mv rfl ot) ?_
      refine OD.still (wants_T rfl rfl rfl lk (by first | rfl | assumption)) rfl (still_r1 (mk := fun y => .call { callee := .builtin .len, args := #[y], argTypes := #[25] }) rfl ot (by first | exact len_list rfl Tryd.runUnderlying25 | exact len_row rfl Tryd.runUnderlying25)) ?_
      refine OD.still (wants_T rfl rfl rfl lk (by first | rfl | assumption)) rfl (still_bin rfl ot opd_const bin_gtr) ?_
      refine OD.still (wants_plain rfl) rfl (still_pickF rfl ot (by first | rfl | assumption) ot) ?_
      refine OD.wk (Wk.as_ (n := 84) (l' := [(3, _), (7, _), (8, _), (9, _), (10, _), (11, _), (52, _)]) (S' := []) rfl rfl ⟨lk, lk, lk, lk, lk, lk, lk, trivial⟩) ?_
      refine OD.nil ?_
      refine CD.cond ot (fun hc1 => ?_) (fun hc1 => ?_)
      · exact absurd hc1 (by simp)
      · have hc1' := hc1
        (try simp only [decide_eq_true_eq, decide_eq_false_iff_not, beq_iff_eq, bne_iff_ne, Bool.not_eq_true', Bool.not_eq_false', Bool.not_eq_true, Bool.not_eq_false, beq_eq_false_iff_ne, ne_eq, bne_eq_false_iff_eq, Bool.and_eq_true, Bool.or_eq_true, Bool.not_not, Bool.and_eq_false_iff, Bool.or_eq_false_iff, Int.not_lt, Int.not_le] at hc1')
        refine CD.skip ?_
        refine CD.seq ?_
        refine CD.seq ?_
        refine CD.region ?_
        refine OD.still (wants_plain rfl) rfl (still_mv rfl ot) ?_
        refine OD.still (wants_plain rfl) rfl (still_bin rfl ot opd_const bin_gtr) ?_
        refine OD.wk (Wk.as_ (n := 84) (l' := [(3, _), (7, _), (8, _), (9, _), (10, _), (11, _), (54, _)]) (S' := []) rfl rfl ⟨lk, lk, lk, lk, lk, lk, lk, trivial⟩) ?_
        refine OD.nil ?_
        refine CD.cond ot (fun hc2 => ?_) (fun hc2 => ?_)
        · have hc2' := hc2
          (try simp only [decide_eq_true_eq, decide_eq_false_iff_not, beq_iff_eq, bne_iff_ne, Bool.not_eq_true', Bool.not_eq_false', Bool.not_eq_true, Bool.not_eq_false, beq_eq_false_iff_ne, ne_eq, bne_eq_false_iff_eq, Bool.and_eq_true, Bool.or_eq_true, Bool.not_not, Bool.and_eq_false_iff, Bool.or_eq_false_iff, Int.not_lt, Int.not_le] at hc2')
          have hbig : i > 100 := by omega
          obtain ⟨q1, q2⟩ := hA hbig
          have q3 := hC hbig
          subst q1 q2 q3
          refine CD.seq ?_
          refine CD.region ?_
          refine OD.still (wants_plain rfl) rfl (still_mv rfl ot) ?_
          refine OD.still (wants_plain rfl) rfl (still_bin rfl ot opd_const bin_eql) ?_
          refine OD.still (wants_plain rfl) rfl (still_mv rfl ot) ?_
          refine OD.split (t := 57) lk (fun hg57 => ?_) (fun hg57 => ?_)
          · have hg57' := hg57; (try simp only [decide_eq_true_eq, decide_eq_false_iff_not, beq_iff_eq, bne_iff_ne, Bool.not_eq_true', Bool.not_eq_false', Bool.not_eq_true, Bool.not_eq_false, beq_eq_false_iff_ne, ne_eq, bne_eq_false_iff_eq, Bool.and_eq_true, Bool.or_eq_true, Bool.not_not] at hg57')
            refine OD.still (wants_T rfl rfl rfl lk (by first | rfl | assumption)) rfl (still_mv rfl ot) ?_
            refine OD.still (wants_T rfl rfl rfl lk (by first | rfl | assumption)) rfl (still_bin rfl ot opd_const bin_eql) ?_
            refine OD.still (wants_plain rfl) rfl (still_pickT rfl ot (by first | rfl | assumption) ot) ?_
            refine OD.still (wants_plain rfl) rfl (still_mv rfl ot) ?_
            refine OD.split (t := 61) lk (fun hg61 => ?_) (fun hg61 => ?_)
            · have hg61' := hg61; (try simp only [decide_eq_true_eq, decide_eq_false_iff_not, beq_iff_eq, bne_iff_ne, Bool.not_eq_true', Bool.not_eq_false', Bool.not_eq_true, Bool.not_eq_false, beq_eq_false_iff_ne, ne_eq, bne_eq_false_iff_eq, Bool.and_eq_true, Bool.or_eq_true, Bool.not_not] at hg61')
              refine OD.still (wants_T rfl rfl rfl lk (by first | rfl | assumption)) rfl (still_mv rfl ot) ?_
              refine OD.still (wants_T rfl rfl rfl lk (by first | rfl | assumption)) rfl (still_bin rfl ot opd_const bin_eql) ?_
              refine OD.still (wants_plain rfl) rfl (still_pickT rfl ot (by first | rfl | assumption) ot) ?_
              refine OD.still (wants_plain rfl) rfl (still_as rfl ot) ?_
              refine OD.wk (Wk.as_ (n := 84) (l' := [(2, _)]) (S' := []) rfl rfl ⟨lk, trivial⟩) ?_
              refine OD.nil ?_
              refine CD.ret ?_
              refine ⟨.inr rfl, _, [], List.nil_sublist _, ret_one Tryd.results7 (res_tmp (Nat.le_of_ble_eq_true rfl) lk), ?_⟩
              exact ⟨by first | rfl | (simp; done) | (rw [show ((((⟨jb.toArray⟩ : ByteArray).size : Nat) : Int) == 2 * (i : Int)) = true from by rw [show (⟨jb.toArray⟩ : ByteArray).size = jb.length from rfl, q3]; simp]), rfl⟩
            · exact absurd hg61 (by simp)
          · exact absurd hg57 (by simp)
        · have hc2' := hc2
          (try simp only [decide_eq_true_eq, decide_eq_false_iff_not, beq_iff_eq, bne_iff_ne, Bool.not_eq_true', Bool.not_eq_false', Bool.not_eq_true, Bool.not_eq_false, beq_eq_false_iff_ne, ne_eq, bne_eq_false_iff_eq, Bool.and_eq_true, Bool.or_eq_true, Bool.not_not, Bool.and_eq_false_iff, Bool.or_eq_false_iff, Int.not_lt, Int.not_le] at hc2')
          have hbig : ¬ i > 100 := by omega
          obtain ⟨q1, q2⟩ := hB hbig
          obtain ⟨q3, q4⟩ := hD hbig
          subst q2 q4
          refine CD.skip ?_
          refine CD.seq ?_
          refine CD.region ?_
          refine OD.still (wants_plain rfl) rfl (still_mv rfl ot) ?_
          refine OD.still (wants_plain rfl) rfl (still_bin rfl ot opd_const bin_eql) ?_
          refine OD.still (wants_plain rfl) rfl (still_mv rfl ot) ?_
          refine OD.split (t := 67) lk (fun hg67 => ?_) (fun hg67 => ?_)
          · have hg67' := hg67; (try simp only [decide_eq_true_eq, decide_eq_false_iff_not, beq_iff_eq, bne_iff_ne, Bool.not_eq_true', Bool.not_eq_false', Bool.not_eq_true, Bool.not_eq_false, beq_eq_false_iff_ne, ne_eq, bne_eq_false_iff_eq, Bool.and_eq_true, Bool.or_eq_true, Bool.not_not] at hg67')
            refine OD.still (wants_T rfl rfl rfl lk (by first | rfl | assumption)) rfl (still_mv rfl ot) ?_
            refine OD.still (wants_T rfl rfl rfl lk (by first | rfl | assumption)) rfl (still_bin rfl ot opd_const bin_eql) ?_
            refine OD.still (wants_plain rfl) rfl (still_pickT rfl ot (by first | rfl | assumption) ot) ?_
            refine OD.still (wants_plain rfl) rfl (still_mv rfl ot) ?_
            refine OD.split (t := 71) lk (fun hg71 => ?_) (fun hg71 => ?_)
            · have hg71' := hg71; (try simp only [decide_eq_true_eq, decide_eq_false_iff_not, beq_iff_eq, bne_iff_ne, Bool.not_eq_true', Bool.not_eq_false', Bool.not_eq_true, Bool.not_eq_false, beq_eq_false_iff_ne, ne_eq, bne_eq_false_iff_eq, Bool.and_eq_true, Bool.or_eq_true, Bool.not_not] at hg71')
              refine OD.still (wants_T rfl rfl rfl lk (by first | rfl | assumption)) rfl (still_mv rfl ot) ?_
              refine OD.still (wants_T rfl rfl rfl lk (by first | rfl | assumption)) rfl (still_r1 (mk := fun y => .call { callee := .builtin .len, args := #[y], argTypes := #[25] }) rfl ot (by first | exact len_list rfl Tryd.runUnderlying25 | exact len_row rfl Tryd.runUnderlying25)) ?_
              refine OD.still (wants_T rfl rfl rfl lk (by first | rfl | assumption)) rfl (still_mv rfl ot) ?_
              refine OD.still (wants_T rfl rfl rfl lk (by first | rfl | assumption)) rfl (still_bin rfl ot ot bin_eql) ?_
              refine OD.still (wants_plain rfl) rfl (still_pickT rfl ot (by first | rfl | assumption) ot) ?_
              refine OD.still (wants_plain rfl) rfl (still_mv rfl ot) ?_
              refine OD.split (t := 77) lk (fun hg77 => ?_) (fun hg77 => ?_)
              · have hg77' := hg77; (try simp only [decide_eq_true_eq, decide_eq_false_iff_not, beq_iff_eq, bne_iff_ne, Bool.not_eq_true', Bool.not_eq_false', Bool.not_eq_true, Bool.not_eq_false, beq_eq_false_iff_ne, ne_eq, bne_eq_false_iff_eq, Bool.and_eq_true, Bool.or_eq_true, Bool.not_not] at hg77')
                refine OD.still (wants_T rfl rfl rfl lk (by first | rfl | assumption)) rfl (still_mv rfl ot) ?_
                refine OD.still (wants_T rfl rfl rfl lk (by first | rfl | assumption)) rfl (still_slen rfl rfl ot Tryd.runUnderlying9) ?_
                refine OD.still (wants_T rfl rfl rfl lk (by first | rfl | assumption)) rfl (still_mv rfl ot) ?_
                refine OD.still (wants_T rfl rfl rfl lk (by first | rfl | assumption)) rfl (still_bin (r := .int .i64 (2 * (i : Nat) : Int)) rfl opd_const ot (bin_mul (wrap_i64 (by omega) (by omega)))) ?_
                refine OD.still (wants_T rfl rfl rfl lk (by first | rfl | assumption)) rfl (still_bin rfl ot ot bin_eql) ?_
                refine OD.still (wants_plain rfl) rfl (still_pickT rfl ot (by first | rfl | assumption) ot) ?_
                refine OD.still (wants_plain rfl) rfl (still_as rfl ot) ?_
                refine OD.wk (Wk.as_ (n := 84) (l' := [(2, _)]) (S' := []) rfl rfl ⟨lk, trivial⟩) ?_
                refine OD.nil ?_
                refine CD.ret ?_
                refine ⟨.inr rfl, _, [], List.nil_sublist _, ret_one Tryd.results7 (res_tmp (Nat.le_of_ble_eq_true rfl) lk), ?_⟩
                exact ⟨by first | rfl | (simp; done) | (rw [show ((((⟨jb.toArray⟩ : ByteArray).size : Nat) : Int) == 2 * (i : Int)) = true from by rw [show (⟨jb.toArray⟩ : ByteArray).size = jb.length from rfl, q3]; simp]), rfl⟩
              · exact absurd hg77 (by simp [q1])
            · exact absurd hg71 (by simp)
          · exact absurd hg67 (by simp)

theorem walkLexMany (a : Int) (wa : (Lit.int .i64 a).wf = true) (w : World) (h1 : MarksTab w) {m : Int} (hm : Tab.TabAt w 4 [Value.int .i64 m]) : Calls Tryd.prog 7 #[.int .i64 a] w fun e w' => e = .returned (.bool true) ∧ Below w.heap.size w w' :=
  (many_vp (G := [(0, marksC), (4, [Value.int .i64 m])]) List.mem_cons_self (List.mem_cons_of_mem _ List.mem_cons_self) a (wf_bd wa).1 (wf_bd wa).2).run
    (fun g hg => by
      simp only [List.mem_cons, List.not_mem_nil, or_false] at hg
      rcases hg with rfl | rfl
      · exact ⟨by decide, h1⟩
      · exact ⟨by simp, hm⟩) (RepL.vs w _ [_])

end Go.Proofs.YtdlcfkkkjklanaaDoor.Lx
