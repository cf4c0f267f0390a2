/-
  What the proof of LexWords leans on, part 2 of 2: walks of the program's functions at the level of values, and plain facts of what they compute.
-/
import Derived.Test.YtdlcfkkkjklanaaDoorPLexWords1
namespace Go.Proofs.YtdlcfkkkjklanaaDoor.Lx
open Go.RowKit V Go.Proofs.YtdlcfkkkjklanaaDoor.Nm Go.Proofs.YtdlcfkkkjklanaaDoor.Pk
set_option linter.unusedVariables false
set_option linter.unusedSimpArgs false

def noTk : Tk := ⟨0, ⟨#[]⟩, 0⟩
/-- What stands behind a quote: its bytes, two quotes for one, and where it ends. -/
def textG : List UInt8 → List UInt8 → Nat → Tk × Nat × Int
  | [], _, _ => (noTk, 0, 7)
  | [c], acc, i => if c = 39 then (⟨3, ⟨acc.toArray⟩, 0⟩, i + 1, 0) else (noTk, 0, 7)
  | c :: d :: r, acc, i => if c = 39 then (if d = 39 then textG r (acc ++ [39]) (i + 2) else (⟨3, ⟨acc.toArray⟩, 0⟩, i + 1, 0)) else textG (d :: r) (acc ++ [c]) (i + 1)
def afterL (l : List UInt8) : Bool := match l.dropWhile digitB with | c :: _ => letterB c | [] => false
def numL (l : List UInt8) : Tk × Nat × Int := match Lib.atoiAll (l.takeWhile digitB) with | .ok v => (⟨2, ⟨#[]⟩, v⟩, (l.takeWhile digitB).length, 0) | _ => (noTk, 0, 5)
def markL (l : List UInt8) : Tk × Nat × Int := match marksB.find? (fun m => m.isPrefixOf l) with | some m => (⟨4, ⟨m.toArray⟩, 0⟩, m.length, 0) | none => (noTk, 0, 6)
/-- The token at the head, how many bytes it has, what is wrong. -/
def oneF (l : List UInt8) : Tk × Nat × Int :=
  if letterB (l.getD 0 0) then (⟨1, ⟨(l.takeWhile wordB).toArray⟩, 0⟩, (l.takeWhile wordB).length, 0)
  else if digitB (l.getD 0 0) then (if afterL l then (noTk, 0, 6) else numL l)
  else if l.getD 0 0 = 39 then textG (l.drop 1) [] 1
  else markL l
def tokD (r : Tk × Nat × Int) : D := .tup [.agg (cT r.1), .v (.int .i64 (r.2.1 : Nat)), .v (.int .i64 r.2.2)]
/-- The variable of the error that tells of a number that is too great. -/
def RangeVar (G : List (Nat × List Value)) : Prop := ∃ ev, (2, [ev]) ∈ G ∧ (ev = .nilIface ∨ ∃ te pe, ev = .iface te pe)

theorem frB {w w' : World} (h : Below w.heap.size w w') : Fr w (bks []) w' (bks []) := ⟨h.os, h.tape, h.output, h.size, fun b hb _ => ⟨h.block b hb, by simp [bks]⟩⟩
theorem own0 (w : World) (X : Nat → Prop) : Own w (live X []) [] := ⟨fun B hB => by simp at hB, by simp [bks]⟩
theorem pairs {w : World} {L : Nat → Prop} (u v : Value) : Rep w L (.tup [.v u, .v v]) (.tuple #[u, v]) := .tup _ [u, v] rfl fun i h h' => by
  match i, h, h' with
  | 0, _, _ => exact .v _
  | 1, _, _ => exact .v _
theorem digits_no : ∀ (l : List UInt8) (a : Nat), (∀ c ∈ l, digitB c = true) → (∃ u, Lib.parseUint10 a l = .ok u) ∨ Lib.parseUint10 a l = .range
  | [], a, _ => .inl ⟨a, rfl⟩
  | c :: r, a, hl => by
    have hc := hl c List.mem_cons_self
    simp only [digitB, decide_eq_true_eq] at hc
    rw [Lib.parseUint10, if_pos hc]
    split
    · exact .inr rfl
    · split
      · exact .inr rfl
      · exact digits_no r _ (fun d hd => hl d (List.mem_cons_of_mem _ hd))
theorem atoi_no {l : List UInt8} (hl : ∀ c ∈ l, digitB c = true) (h0 : l ≠ []) : (∃ v, Lib.atoiAll l = .ok v) ∨ Lib.atoiAll l = .range := by
  match l, h0 with
  | c :: r, _ =>
    have hc := hl c List.mem_cons_self
    simp only [digitB, decide_eq_true_eq] at hc
    have hm : Lib.parseMag (c :: r) = Lib.parseUint10 0 (c :: r) := by unfold Lib.parseMag; rw [if_neg (by simp)]
    unfold Lib.atoiAll
    simp only
    rw [if_neg (by omega), hm]
    rcases digits_no (c :: r) 0 hl with ⟨u, hu⟩ | hu
    · rw [hu]
      simp only
      split
      · exact .inr rfl
      · split
        · exact .inr rfl
        · exact .inl ⟨_, rfl⟩
    · rw [hu]; exact .inr rfl
theorem arg1 {G : List (Nat × List Value)} {X : Nat → Prop} {w : World} {x : Value} {us : List Value} (hp : Pre G X w [] [.v x] us) : us = [x] := by
  obtain ⟨a1, a2⟩ := hp.args
  match us, a1, a2 with
  | [u], _, a2 => have e : u = _ := (a2 0 Nat.zero_lt_one Nat.zero_lt_one).v_eq; rw [e]
/-- strconv.Atoi, of digits. -/
theorem atoi_vc {G : List (Nat × List Value)} (s : ByteArray) (hs : s.size ≤ 1000000) (hd : ∀ c ∈ s.data.toList, digitB c = true) (h0 : s.data.toList ≠ []) (hr : Lib.atoiAll s.data.toList = .range → RangeVar G) :
    VC Tryd.prog G 28 [.v (.string s)] [] (fun r S => S = [] ∧ ((∃ v, Lib.atoiAll s.data.toList = .ok v ∧ r = .tup [.v (.int .i64 v), .v .nilIface]) ∨ (Lib.atoiAll s.data.toList = .range ∧ ∃ v te p, r = .tup [.v (.int .i64 v), .v (.iface te p)]))) := fun X w us hp => by
  have hu : us = [.string s] := arg1 hp
  subst hu
  rcases atoi_no hd h0 with ⟨v, ha⟩ | ha
  · refine (Tryd.strconv_Atoi_ok s (by omega) v ha w).mono fun e w' ⟨h1, h2⟩ => ⟨_, _, [], h1, ⟨rfl, .inl ⟨v, ha, rfl⟩⟩, own0 _ _, pairs _ _, frB ?_⟩
    rcases h2 with rfl | ⟨t, rfl⟩
    · exact Below.refl _ _
    · exact Lib.bytesWorld_below _ _ _
  · obtain ⟨ev, hg, hev⟩ := hr ha
    refine (Tryd.strconv_Atoi_range s (by omega) ha ev w ((hp.tab _ hg).2 0 _ rfl) hev).mono fun e w' ⟨N, h1, _, _, h2⟩ => ⟨_, _, [], h1, ⟨rfl, .inr ⟨ha, _, _, _, rfl⟩⟩, own0 _ _, pairs _ _, frB h2⟩
variable {G : List (Nat × List Value)}
set_option maxHeartbeats 4000000 in
set_option maxRecDepth 100000 in
theorem one1_vp (c : UInt8) : VP Tryd.prog G 26 [.v (.int .u8 ((c).toNat : Int))] (.v (.bool (wordB c))) := by
  refine VC.body Tryd.func26 rfl Tryd.ntmps26 (Nat.le_of_ble_eq_true rfl) fun X0 w0 S00 => ?_
  refine CD.seq ?_
  refine CD.region ?_
  refine OD.still (wants_plain rfl) rfl (still_as rfl opd_const) ?_
  refine OD.wk (Wk.as_ (n := 9) (l' := [(0, _)]) (S' := []) rfl rfl ⟨lk, trivial⟩) ?_
  refine OD.nil ?_
  refine CD.seq ?_
  refine CD.region ?_
  refine OD.still (wants_plain rfl) rfl (still_mv rfl ot) ?_
  refine OD.callP (wants_plain rfl) rfl rfl rfl Tryd.call25 (letter_vp c) ⟨ot, trivial⟩ ?_
  refine OD.still (wants_plain rfl) rfl (still_mv rfl ot) ?_
  refine OD.split (t := 5) lk (fun hg5 => ?_) (fun hg5 => ?_)
  · have hg5' := hg5; (try simp only [decide_eq_true_eq, decide_eq_false_iff_not, beq_iff_eq, bne_iff_ne, Bool.not_eq_true', Bool.not_eq_false', Bool.not_eq_true, Bool.not_eq_false, beq_eq_false_iff_ne, ne_eq, bne_eq_false_iff_eq, Bool.and_eq_true, Bool.or_eq_true, Bool.not_not] at hg5')
    refine OD.skip (wants_F rfl rfl rfl lk (by first | rfl | assumption)) rfl ?_
    refine OD.skip (wants_F rfl rfl rfl lk (by first | rfl | assumption)) rfl ?_
    refine OD.still (wants_plain rfl) rfl (still_pickT rfl ot (by first | rfl | assumption) opd_const) ?_
    refine OD.still (wants_plain rfl) rfl (still_as rfl ot) ?_
    refine OD.wk (Wk.as_ (n := 9) (l' := [(2, _)]) (S' := []) rfl rfl ⟨lk, trivial⟩) ?_
    refine OD.nil ?_
    refine CD.ret ?_
    refine ⟨.inr rfl, _, [], List.nil_sublist _, ret_one Tryd.results26 (res_tmp (Nat.le_of_ble_eq_true rfl) lk), ?_⟩
    exact ⟨vb (by simp [wordB, *]), rfl⟩
  · have hg5' := hg5; (try simp only [decide_eq_true_eq, decide_eq_false_iff_not, beq_iff_eq, bne_iff_ne, Bool.not_eq_true', Bool.not_eq_false', Bool.not_eq_true, Bool.not_eq_false, beq_eq_false_iff_ne, ne_eq, bne_eq_false_iff_eq, Bool.and_eq_true, Bool.or_eq_true, Bool.not_not] at hg5')
    refine OD.still (wants_T rfl rfl rfl lk (by first | rfl | assumption)) rfl (still_mv rfl ot) ?_
    refine OD.callP (wants_T rfl rfl rfl lk (by first | rfl | assumption)) rfl rfl rfl Tryd.call27 (digit_vp c) ⟨ot, trivial⟩ ?_
    refine OD.still (wants_plain rfl) rfl (still_pickF rfl ot (by first | rfl | assumption) ot) ?_
    refine OD.still (wants_plain rfl) rfl (still_as rfl ot) ?_
    refine OD.wk (Wk.as_ (n := 9) (l' := [(2, _)]) (S' := []) rfl rfl ⟨lk, trivial⟩) ?_
    refine OD.nil ?_
    refine CD.ret ?_
    refine ⟨.inr rfl, _, [], List.nil_sublist _, ret_one Tryd.results26 (res_tmp (Nat.le_of_ble_eq_true rfl) lk), ?_⟩
    exact ⟨vb (by simp [wordB, *]), rfl⟩

theorem text_step {l acc : List UInt8} {i : Nat} (hi : i < l.length) (hc : l[i] ≠ 39) : textG (l.drop i) acc i = textG (l.drop (i + 1)) (acc ++ [l[i]]) (i + 1) := by
  rw [List.drop_eq_getElem_cons hi]
  cases hr : l.drop (i + 1) with
  | nil => exact if_neg hc
  | cons d r => exact if_neg hc
theorem text_two {l acc : List UInt8} {i : Nat} (hi : i + 1 < l.length) (hc : l[i] = 39) (hd : l[i + 1] = 39) : textG (l.drop i) acc i = textG (l.drop (i + 2)) (acc ++ [l[i + 1]]) (i + 2) := by
  rw [List.drop_eq_getElem_cons (by omega), List.drop_eq_getElem_cons hi, textG, if_pos hc, if_pos hd, hd]
theorem text_end {l acc : List UInt8} {i : Nat} (hi : i < l.length) (hc : l[i] = 39) (hd : i + 1 = l.length ∨ ∃ h : i + 1 < l.length, l[i + 1] ≠ 39) : textG (l.drop i) acc i = (⟨3, ⟨acc.toArray⟩, 0⟩, i + 1, 0) := by
  rw [List.drop_eq_getElem_cons hi]
  cases hr : l.drop (i + 1) with
  | nil => rw [textG, if_pos hc]
  | cons d r =>
    rcases hd with hd | ⟨h, hd⟩
    · rw [hd, List.drop_length] at hr; cases hr
    · rw [List.drop_eq_getElem_cons h] at hr
      cases hr
      rw [textG, if_pos hc, if_neg hd]
theorem text_short {l acc : List UInt8} {i : Nat} (hi : l.length ≤ i) : textG (l.drop i) acc i = (noTk, 0, 7) := by
  rw [List.drop_eq_nil_of_le hi]; rfl

theorem info5_Lx1 : (Tryd.prog.info? 5).map (fun i => (i.zero, i.size, i.bytes)) = some (some (.int .u8 0), 1, 1) := by kernel_rfl

theorem places30_Lx1 : ∀ w, ((#[{ name := "Kind", type := 3, offset := 0, embedded := false, tag := "", pkgPath := "", byteOffset := 0 }, { name := "Text", type := 9, offset := 1, embedded := false, tag := "", pkgPath := "", byteOffset := 8 }, { name := "Int", type := 3, offset := 2, embedded := false, tag := "", pkgPath := "", byteOffset := 24 }] : Array Field).mapM fun f => do pure (f.offset, ← sizeOf f.type) : Sem (Array (Nat × Nat))).run Tryd.prog w = .ok #[(0, 1), (1, 1), (2, 1)] w := fun w => by simp [Tryd.sizeOf3, Tryd.sizeOf9]

set_option maxHeartbeats 4000000 in
set_option maxRecDepth 100000 in
theorem text_vp (s : ByteArray) (hs : s.size ≤ 1000000) : VP Tryd.prog G 29 [.v (.string s)] (tokD (textG (s.data.toList.drop 1) [] 1)) := by
  refine VC.body Tryd.func29 rfl Tryd.ntmps29 (Nat.le_of_ble_eq_true rfl) fun X0 w0 S00 => ?_
  have hmx : maxLen = 9223372036854775807 := rfl
  have hsl := str_len s
  refine CD.seq ?_
  refine CD.region ?_
  refine OD.alloc (ds := [_, _, _]) (wants_plain rfl) rfl rfl Tryd.zeroValue30 rfl (fun b2 => ?_)
  refine OD.still (wants_plain rfl) rfl (still_as rfl opd_const) ?_
  refine OD.still (wants_plain rfl) rfl (still_as rfl opd_const) ?_
  refine OD.wk (Wk.as_ (n := 43) (l' := [(0, _), (2, _)]) (S' := [⟨b2, 30, 3, [_, _, _]⟩]) rfl rfl ⟨lk, lk, trivial⟩) ?_
  refine OD.nil ?_
  refine CD.seq ?_
  refine CD.region ?_
  refine OD.still (wants_plain rfl) rfl (still_as rfl opd_const) ?_
  refine OD.wk (Wk.as_ (n := 43) (l' := [(0, _), (2, _), (5, _)]) (S' := (⟨b2, 30, 3, [_, _, _]⟩ :: [])) rfl rfl ⟨lk, lk, lk, trivial⟩) ?_
  refine OD.nil ?_
  refine CD.seq ?_
  refine CD.seq ?_
  refine CD.region ?_
  refine OD.still (wants_plain rfl) rfl (still_as rfl opd_const) ?_
  refine OD.wk (Wk.as_ (n := 43) (l' := [(0, _), (2, _), (5, _), (6, _)]) (S' := (⟨b2, 30, 3, [_, _, _]⟩ :: [])) rfl rfl ⟨lk, lk, lk, lk, trivial⟩) ?_
  refine OD.nil ?_
  refine CD.block ?_
  refine CD.wk (Wk.asS (n := 43) (l' := [(0, .v (.string s)), (2, .v (.pointer (some ⟨b2, 0, none⟩))), (5, .v (.slice none (([])).length (0))), (6, .v (.int .i64 ((1) : Nat)))]) (S' := ((⟨b2, 30, 3, cT noTk⟩ : Blk) :: ([]))) rfl (by repeat (first | exact List.Sublist.refl _ | apply List.Sublist.cons_cons | apply List.Sublist.cons)) ⟨(by (repeat (first | exact look_hit | (apply look_at; focus (first | rfl | (simp; done) | (congr 2; omega) | (apply row_eq; simp; done))) | (apply look_miss; focus rfl))); done), (by (repeat (first | exact look_hit | (apply look_at; focus (first | rfl | (simp; done) | (congr 2; omega) | (apply row_eq; simp; done))) | (apply look_miss; focus rfl))); done), (by (repeat (first | exact look_hit | (apply look_at; focus (first | rfl | (simp; done) | (congr 2; omega) | (apply row_eq; simp; done))) | (apply look_miss; focus rfl))); done), (by (repeat (first | exact look_hit | (apply look_at; focus (first | rfl | (simp; done) | (congr 2; omega) | (apply row_eq; simp; done))) | (apply look_miss; focus rfl))); done), trivial⟩) (CD.loop (fun (gh__ : Nat × List UInt8 × Option Addr × Nat × List Blk) y__ => match gh__ with | (i, acc, adb, cpb, Sb) => (textG (s.data.toList.drop i) acc i = textG (s.data.toList.drop 1) [] 1) ∧ (acc.length ≤ i) ∧ (i ≤ s.size + 1) ∧ (OwnL 5 1 ((acc).flatMap cB) (acc).length adb cpb Sb) ∧ y__ = (⟨43, [(0, .v (.string s)), (2, .v (.pointer (some ⟨b2, 0, none⟩))), (5, .v (.slice adb (acc).length cpb)), (6, .v (.int .i64 (i : Nat)))], ((⟨b2, 30, 3, cT noTk⟩ : Blk) :: Sb)⟩ : St)) (fun (gh__ : Nat × List UInt8 × Option Addr × Nat × List Blk) => match gh__ with | (i, acc, adb, cpb, Sb) => s.size + 1 - i) (1, [], none, 0, []) ⟨rfl, (Nat.zero_le _), (by omega), (OwnL.cast ownL_nil (by first | rfl | simp)), rfl⟩ ?_)
  rintro ⟨i, acc, adb, cpb, Sb⟩ _ ⟨ht, hal, his, hob, rfl⟩
  refine CD.seq ?_
  refine CD.seq ?_
  refine CD.region ?_
  refine OD.still (wants_plain rfl) rfl (still_mv rfl ot) ?_
  refine OD.still (wants_plain rfl) rfl (still_mv rfl ot) ?_
  refine OD.still (wants_plain rfl) rfl (still_slen rfl rfl ot Tryd.runUnderlying9) ?_
  refine OD.still (wants_plain rfl) rfl (still_bin rfl ot ot bin_lss) ?_
  refine OD.wk (Wk.as_ (n := 43) (l' := [(0, _), (2, _), (5, _), (6, _), (10, _)]) (S' := (⟨b2, 30, 3, [_, _, _]⟩ :: Sb)) rfl rfl ⟨lk, lk, lk, lk, lk, trivial⟩) ?_
  refine OD.nil ?_
  refine CD.cond ot (fun hc0 => ?_) (fun hc0 => ?_)
  · have hc0' := hc0
    (try simp only [decide_eq_true_eq, decide_eq_false_iff_not, beq_iff_eq, bne_iff_ne, Bool.not_eq_true', Bool.not_eq_false', Bool.not_eq_true, Bool.not_eq_false, beq_eq_false_iff_ne, ne_eq, bne_eq_false_iff_eq, Bool.and_eq_true, Bool.or_eq_true, Bool.not_not, Bool.and_eq_false_iff, Bool.or_eq_false_iff, Int.not_lt, Int.not_le] at hc0')
    have hlt : i < s.size := by omega
    have hil : i < s.data.toList.length := by omega
    have hgi := byteAt_get hil
    refine CD.skip ?_
    refine CD.seq ?_
    refine CD.block ?_
    refine CD.seq ?_
    refine CD.seq ?_
    refine CD.region ?_
    have hks : i < s.size := by omega
    have hkc : s[i]? = some (byteAt s (i)) := str_at hks
    refine OD.still (wants_plain rfl) rfl (still_mv rfl ot) ?_
    refine OD.still (wants_plain rfl) rfl (still_mv rfl ot) ?_
    refine OD.still (wants_plain rfl) rfl (still_sidx (c := byteAt s i) rfl ot ot Tryd.runUnderlying9 rfl (str_at hlt)) ?_
    refine OD.still (wants_plain rfl) rfl (still_bin rfl ot opd_const bin_eql) ?_
    refine OD.wk (Wk.as_ (n := 43) (l' := [(0, _), (2, _), (5, _), (6, _), (16, _)]) (S' := (⟨b2, 30, 3, [_, _, _]⟩ :: Sb)) rfl rfl ⟨lk, lk, lk, lk, lk, trivial⟩) ?_
    refine OD.nil ?_
    refine CD.cond ot (fun hc1 => ?_) (fun hc1 => ?_)
    · have hc1' := hc1
      (try simp only [decide_eq_true_eq, decide_eq_false_iff_not, beq_iff_eq, bne_iff_ne, Bool.not_eq_true', Bool.not_eq_false', Bool.not_eq_true, Bool.not_eq_false, beq_eq_false_iff_ne, ne_eq, bne_eq_false_iff_eq, Bool.and_eq_true, Bool.or_eq_true, Bool.not_not, Bool.and_eq_false_iff, Bool.or_eq_false_iff, Int.not_lt, Int.not_le] at hc1')
      have hq : byteAt s i = 39 := UInt8.toNat_inj.1 (by simp at hc1; show (byteAt s i).toNat = 39; omega)
      refine CD.seq ?_
      refine CD.seq ?_
      refine CD.region ?_
      refine OD.still (wants_plain rfl) rfl (still_mv rfl ot) ?_
      refine OD.still (wants_plain rfl) rfl (still_bin (r := .int .i64 ((i + 1 : Nat) : Int)) rfl ot opd_const (bin_add (by show IntKind.i64.wrap ((i : Int) + 1) = (i : Int) + 1; exact wrap_i64 (by omega) (by omega)))) ?_
      refine OD.still (wants_plain rfl) rfl (still_mv rfl ot) ?_
      refine OD.still (wants_plain rfl) rfl (still_slen rfl rfl ot Tryd.runUnderlying9) ?_
      refine OD.still (wants_plain rfl) rfl (still_bin rfl ot ot bin_eql) ?_
      refine OD.still (wants_plain rfl) rfl (still_mv rfl ot) ?_
      refine OD.split (t := 22) lk (fun hg22 => ?_) (fun hg22 => ?_)
      · have hg22' := hg22; (try simp only [decide_eq_true_eq, decide_eq_false_iff_not, beq_iff_eq, bne_iff_ne, Bool.not_eq_true', Bool.not_eq_false', Bool.not_eq_true, Bool.not_eq_false, beq_eq_false_iff_ne, ne_eq, bne_eq_false_iff_eq, Bool.and_eq_true, Bool.or_eq_true, Bool.not_not] at hg22')
        refine OD.skip (wants_F rfl rfl rfl lk (by first | rfl | assumption)) rfl ?_
        refine OD.skip (wants_F rfl rfl rfl lk (by first | rfl | assumption)) rfl ?_
        refine OD.skip (wants_F rfl rfl rfl lk (by first | rfl | assumption)) rfl ?_
        refine OD.skip (wants_F rfl rfl rfl lk (by first | rfl | assumption)) rfl ?_
        refine OD.skip (wants_F rfl rfl rfl lk (by first | rfl | assumption)) rfl ?_
        refine OD.still (wants_plain rfl) rfl (still_pickT rfl ot (by first | rfl | assumption) opd_const) ?_
        refine OD.wk (Wk.as_ (n := 43) (l' := [(0, _), (2, _), (5, _), (6, _), (28, _)]) (S' := (⟨b2, 30, 3, [_, _, _]⟩ :: Sb)) rfl rfl ⟨lk, lk, lk, lk, lk, trivial⟩) ?_
        refine OD.nil ?_
        refine CD.condT ot (by first | rfl | assumption) ?_
        have hend : textG (s.data.toList.drop i) acc i = (⟨3, ⟨acc.toArray⟩, 0⟩, i + 1, 0) := text_end hil (by rw [hgi]; exact hq) (by first | (left; simp at *; omega) | (right; refine ⟨by omega, fun e => ?_⟩; rw [byteAt_get] at e; simp [e] at *))
        rw [ht] at hend
        refine CD.seq ?_
        refine CD.region ?_
        refine OD.still (wants_plain rfl) rfl (still_mv rfl ot) ?_
        refine OD.giveL (t := 29) (Sq := Sb) lk hob (fm_len cB_len _) (perm_r11 (A := [_])) ?_
        first | refine OD.still (wants_plain rfl) rfl (still_ofBytes rfl ot Tryd.underlying24 Tryd.underlying5 Tryd.underlying9) ?_ | refine OD.still (wants_plain rfl) rfl (still_ofBytesF rfl ot Tryd.underlying24 Tryd.underlying5 Tryd.underlying9) ?_
        refine OD.still (wants_plain rfl) rfl (still_bld (pl := [(0, _), (1, _)]) (ds := [_, _, _]) rfl Tryd.zeroValue30 Tryd.runUnderlying30 places30_Lx1 ⟨rfl, opd_const, rfl, ot, trivial⟩ rfl rfl) ?_
        refine OD.still (wants_plain rfl) rfl (still_mv rfl ot) ?_
        refine OD.still (wants_plain rfl) rfl (still_bin rfl ot opd_const (bin_add (wrap_i64 (by omega) (by omega)))) ?_
        refine OD.store (k := 0) (cs' := [_, _, _]) (wants_plain rfl) rfl rfl ot rfl rfl ot rfl rfl Tryd.sizeOf30 rfl rfl rfl ?_
        refine OD.still (wants_plain rfl) rfl (still_as rfl ot) ?_
        refine OD.still (wants_plain rfl) rfl (still_as rfl opd_const) ?_
        refine OD.wk (Wk.as_ (n := 43) (l' := [(2, _), (3, _), (4, _)]) (S' := [⟨b2, 30, 3, [_, _, _]⟩]) rfl rfl ⟨lk, lk, lk, trivial⟩) ?_
        refine OD.nil ?_
        refine CD.ret ?_
        refine ⟨.inr rfl, _, [], List.nil_sublist _, ret_three Tryd.results29 (res_cells (k := 0) (ds := [_, _, _]) (Nat.le_of_ble_eq_true rfl) lk rfl rfl Tryd.isAgg30 Tryd.sizeOf30 rfl rfl) (res_tmp (Nat.le_of_ble_eq_true rfl) lk) (res_tmp (Nat.le_of_ble_eq_true rfl) lk), ?_⟩
        first | (rw [hend]; exact ⟨rfl, rfl⟩) | (rw [hshort]; exact ⟨rfl, rfl⟩)
      · have hg22' := hg22; (try simp only [decide_eq_true_eq, decide_eq_false_iff_not, beq_iff_eq, bne_iff_ne, Bool.not_eq_true', Bool.not_eq_false', Bool.not_eq_true, Bool.not_eq_false, beq_eq_false_iff_ne, ne_eq, bne_eq_false_iff_eq, Bool.and_eq_true, Bool.or_eq_true, Bool.not_not] at hg22')
        refine OD.still (wants_T rfl rfl rfl lk (by first | rfl | assumption)) rfl (still_mv rfl ot) ?_
        refine OD.still (wants_T rfl rfl rfl lk (by first | rfl | assumption)) rfl (still_mv rfl ot) ?_
        have hi1 : i + 1 < s.size := by simp at *; omega
        refine OD.still (wants_T rfl rfl rfl lk (by first | rfl | assumption)) rfl (still_bin (r := .int .i64 ((i + 1 : Nat) : Int)) rfl ot opd_const (bin_add (by show IntKind.i64.wrap ((i : Int) + 1) = (i : Int) + 1; exact wrap_i64 (by omega) (by omega)))) ?_
        refine OD.still (wants_T rfl rfl rfl lk (by first | rfl | assumption)) rfl (still_sidx (c := byteAt s (i + 1)) rfl ot ot Tryd.runUnderlying9 rfl (str_at hi1)) ?_
        refine OD.still (wants_T rfl rfl rfl lk (by first | rfl | assumption)) rfl (still_bin rfl ot opd_const bin_neq) ?_
        refine OD.still (wants_plain rfl) rfl (still_pickF rfl ot (by first | rfl | assumption) ot) ?_
        refine OD.wk (Wk.as_ (n := 43) (l' := [(0, _), (2, _), (5, _), (6, _), (28, _)]) (S' := (⟨b2, 30, 3, [_, _, _]⟩ :: Sb)) rfl rfl ⟨lk, lk, lk, lk, lk, trivial⟩) ?_
        refine OD.nil ?_
        refine CD.cond ot (fun hc2 => ?_) (fun hc2 => ?_)
        · have hc2' := hc2
          (try simp only [decide_eq_true_eq, decide_eq_false_iff_not, beq_iff_eq, bne_iff_ne, Bool.not_eq_true', Bool.not_eq_false', Bool.not_eq_true, Bool.not_eq_false, beq_eq_false_iff_ne, ne_eq, bne_eq_false_iff_eq, Bool.and_eq_true, Bool.or_eq_true, Bool.not_not, Bool.and_eq_false_iff, Bool.or_eq_false_iff, Int.not_lt, Int.not_le] at hc2')
          have hend : textG (s.data.toList.drop i) acc i = (⟨3, ⟨acc.toArray⟩, 0⟩, i + 1, 0) := text_end hil (by rw [hgi]; exact hq) (by first | (left; simp at *; omega) | (right; refine ⟨by omega, fun e => ?_⟩; rw [byteAt_get] at e; simp [e] at *))
          rw [ht] at hend
          refine CD.seq ?_
          refine CD.region ?_
          refine OD.still (wants_plain rfl) rfl (still_mv rfl ot) ?_
          refine OD.giveL (t := 29) (Sq := Sb) lk hob (fm_len cB_len _) (perm_r11 (A := [_])) ?_
          first | refine OD.still (wants_plain rfl) rfl (still_ofBytes rfl ot Tryd.underlying24 Tryd.underlying5 Tryd.underlying9) ?_ | refine OD.still (wants_plain rfl) rfl (still_ofBytesF rfl ot Tryd.underlying24 Tryd.underlying5 Tryd.underlying9) ?_
          refine OD.still (wants_plain rfl) rfl (still_bld (pl := [(0, _), (1, _)]) (ds := [_, _, _]) rfl Tryd.zeroValue30 Tryd.runUnderlying30 places30_Lx1 ⟨rfl, opd_const, rfl, ot, trivial⟩ rfl rfl) ?_
          refine OD.still (wants_plain rfl) rfl (still_mv rfl ot) ?_
          refine OD.still (wants_plain rfl) rfl (still_bin rfl ot opd_const (bin_add (wrap_i64 (by omega) (by omega)))) ?_
          refine OD.store (k := 0) (cs' := [_, _, _]) (wants_plain rfl) rfl rfl ot rfl rfl ot rfl rfl Tryd.sizeOf30 rfl rfl rfl ?_
          refine OD.still (wants_plain rfl) rfl (still_as rfl ot) ?_
          refine OD.still (wants_plain rfl) rfl (still_as rfl opd_const) ?_
          refine OD.wk (Wk.as_ (n := 43) (l' := [(2, _), (3, _), (4, _)]) (S' := [⟨b2, 30, 3, [_, _, _]⟩]) rfl rfl ⟨lk, lk, lk, trivial⟩) ?_
          refine OD.nil ?_
          refine CD.ret ?_
          refine ⟨.inr rfl, _, [], List.nil_sublist _, ret_three Tryd.results29 (res_cells (k := 0) (ds := [_, _, _]) (Nat.le_of_ble_eq_true rfl) lk rfl rfl Tryd.isAgg30 Tryd.sizeOf30 rfl rfl) (res_tmp (Nat.le_of_ble_eq_true rfl) lk) (res_tmp (Nat.le_of_ble_eq_true rfl) lk), ?_⟩
          first | (rw [hend]; exact ⟨rfl, rfl⟩) | (rw [hshort]; exact ⟨rfl, rfl⟩)
        · have hc2' := hc2
          (try simp only [decide_eq_true_eq, decide_eq_false_iff_not, beq_iff_eq, bne_iff_ne, Bool.not_eq_true', Bool.not_eq_false', Bool.not_eq_true, Bool.not_eq_false, beq_eq_false_iff_ne, ne_eq, bne_eq_false_iff_eq, Bool.and_eq_true, Bool.or_eq_true, Bool.not_not, Bool.and_eq_false_iff, Bool.or_eq_false_iff, Int.not_lt, Int.not_le] at hc2')
          have hi1 : i + 1 < s.size := by simp at *; omega
          have hil1 : i + 1 < s.data.toList.length := by omega
          have hgi1 := byteAt_get hil1
          have hq1 : byteAt s (i + 1) = 39 := UInt8.toNat_inj.1 (by simp at *; show (byteAt s (i + 1)).toNat = 39; omega)
          have hst := text_two (acc := acc) hil1 (by rw [hgi]; exact hq) (by rw [hgi1]; exact hq1)
          rw [hgi1] at hst
          refine CD.skip ?_
          refine CD.region ?_
          refine OD.still (wants_plain rfl) rfl (still_mv rfl ot) ?_
          refine OD.still (wants_plain rfl) rfl (still_bin (r := .int .i64 ((i + 1 : Nat) : Int)) rfl ot opd_const (bin_add (by show IntKind.i64.wrap ((i : Int) + 1) = (i : Int) + 1; exact wrap_i64 (by omega) (by omega)))) ?_
          refine OD.still (wants_plain rfl) rfl (still_as rfl ot) ?_
          refine OD.wk (Wk.as_ (n := 43) (l' := [(0, _), (2, _), (5, _), (6, _)]) (S' := (⟨b2, 30, 3, [_, _, _]⟩ :: Sb)) rfl rfl ⟨lk, lk, lk, lk, trivial⟩) ?_
          refine OD.nil ?_
          refine CD.region ?_
          refine OD.still (wants_plain rfl) rfl (still_mv rfl ot) ?_
          refine OD.still (wants_plain rfl) rfl (still_mv rfl ot) ?_
          refine OD.still (wants_plain rfl) rfl (still_mv rfl ot) ?_
          refine OD.still (wants_plain rfl) rfl (still_sidx (c := byteAt s (i + 1)) rfl ot ot Tryd.runUnderlying9 rfl (str_at hi1)) ?_
          refine OD.bldS (pl := [(0, _)]) (zvs := [.int .u8 0]) (ds := [_]) (wants_plain rfl) rfl rfl Tryd.zeroValue5 Tryd.runUnderlying24 Tryd.sizeOf5 rfl rfl (by kernel_rfl) ⟨rfl, ot, trivial⟩ rfl rfl (fun b40 => ?_)
          refine OD.give (k := 0) (t := 40) (sz := 1) (m := 1) rfl lk rfl rfl rfl (Nat.le_refl _) (by decide) ?_
          refine OD.appendG (ls := (acc)) (new := [byteAt s (i + 1)]) (Sq := Sb) cB_len cB_one (wants_plain rfl) rfl rfl Tryd.underlying24 info5_Lx1 rfl (by decide) ot hob (perm_r11 (A := [_])) ot (by simp) (by simp [maxLen]; omega) (by simp; omega) (fun b41 cp41 h141 h241 => ?_)
          refine OD.perm (perm_q11 (S1 := [⟨b41, 5, cp41 * 1, List.flatMap cB ((acc) ++ [byteAt s (i + 1)])⟩]) (A := [_])) ?_
          refine OD.still (wants_plain rfl) rfl (still_as rfl ot) ?_
          refine OD.wk (Wk.as_ (n := 43) (l' := [(0, _), (2, _), (5, _), (6, _)]) (S' := (⟨b2, 30, 3, [_, _, _]⟩ :: [⟨b41, 5, cp41 * 1, List.flatMap cB ((acc) ++ [byteAt s (i + 1)])⟩])) rfl rfl ⟨lk, lk, lk, lk, trivial⟩) ?_
          refine OD.nil ?_
          refine CD.region ?_
          refine OD.still (wants_plain rfl) rfl (still_mv rfl ot) ?_
          refine OD.still (wants_plain rfl) rfl (still_bin rfl ot opd_const (bin_add (wrap_i64 (by omega) (by omega)))) ?_
          refine OD.still (wants_plain rfl) rfl (still_as rfl ot) ?_
          refine OD.wk (Wk.as_ (n := 43) (l' := [(0, _), (2, _), (5, _), (6, _)]) (S' := (⟨b2, 30, 3, [_, _, _]⟩ :: [⟨b41, 5, cp41 * 1, List.flatMap cB ((acc) ++ [byteAt s (i + 1)])⟩])) rfl rfl ⟨lk, lk, lk, lk, trivial⟩) ?_
          refine OD.nil ?_
          refine ⟨((i + 2), (acc ++ [byteAt s (i + 1)]), (some ⟨b41, 0, none⟩), cp41, [⟨b41, 5, cp41 * 1, List.flatMap cB ((acc) ++ [byteAt s (i + 1)])⟩]), ⟨43, [(0, .v (.string s)), (2, .v (.pointer (some ⟨b2, 0, none⟩))), (5, .v (.slice ((some ⟨b41, 0, none⟩)) (((acc ++ [byteAt s (i + 1)]))).length cp41)), (6, .v (.int .i64 (((i + 2)) : Nat)))], ((⟨b2, 30, 3, cT noTk⟩ : Blk) :: ([⟨b41, 5, cp41 * 1, List.flatMap cB ((acc) ++ [byteAt s (i + 1)])⟩]))⟩, ?_, Wk.asS (n := 43) rfl (by repeat (first | exact List.Sublist.refl _ | apply List.Sublist.cons_cons | apply List.Sublist.cons)) ⟨(by (repeat (first | exact look_hit | (apply look_at; focus (first | rfl | (simp; done) | (congr 2; omega) | (apply row_eq; simp; done))) | (apply look_miss; focus rfl))); done), (by (repeat (first | exact look_hit | (apply look_at; focus (first | rfl | (simp; done) | (congr 2; omega) | (apply row_eq; simp; done))) | (apply look_miss; focus rfl))); done), (by (repeat (first | exact look_hit | (apply look_at; focus (first | rfl | (simp; done) | (congr 2; omega) | (apply row_eq; simp; done))) | (apply look_miss; focus rfl))); done), (by (repeat (first | exact look_hit | (apply look_at; focus (first | rfl | (simp; done) | (congr 2; omega) | (apply row_eq; simp; done))) | (apply look_miss; focus rfl))); done), trivial⟩, (hst.symm.trans ht), (by simp; omega), (by omega), (OwnL.cast (ownL_row h141 h241) (by first | rfl | simp)), rfl⟩
          first | omega | (simp only []; omega)
    · have hc1' := hc1
      (try simp only [decide_eq_true_eq, decide_eq_false_iff_not, beq_iff_eq, bne_iff_ne, Bool.not_eq_true', Bool.not_eq_false', Bool.not_eq_true, Bool.not_eq_false, beq_eq_false_iff_ne, ne_eq, bne_eq_false_iff_eq, Bool.and_eq_true, Bool.or_eq_true, Bool.not_not, Bool.and_eq_false_iff, Bool.or_eq_false_iff, Int.not_lt, Int.not_le] at hc1')
      have hq : byteAt s i ≠ 39 := fun e => by rw [e] at hc1; simp at hc1
      have hst := text_step (acc := acc) hil (by rw [hgi]; exact hq)
      rw [hgi] at hst
      refine CD.skip ?_
      refine CD.region ?_
      refine OD.still (wants_plain rfl) rfl (still_mv rfl ot) ?_
      refine OD.still (wants_plain rfl) rfl (still_mv rfl ot) ?_
      refine OD.still (wants_plain rfl) rfl (still_mv rfl ot) ?_
      refine OD.still (wants_plain rfl) rfl (still_sidx (c := byteAt s i) rfl ot ot Tryd.runUnderlying9 rfl (str_at hlt)) ?_
      refine OD.bldS (pl := [(0, _)]) (zvs := [.int .u8 0]) (ds := [_]) (wants_plain rfl) rfl rfl Tryd.zeroValue5 Tryd.runUnderlying24 Tryd.sizeOf5 rfl rfl (by kernel_rfl) ⟨rfl, ot, trivial⟩ rfl rfl (fun b40 => ?_)
      refine OD.give (k := 0) (t := 40) (sz := 1) (m := 1) rfl lk rfl rfl rfl (Nat.le_refl _) (by decide) ?_
      refine OD.appendG (ls := (acc)) (new := [byteAt s i]) (Sq := Sb) cB_len cB_one (wants_plain rfl) rfl rfl Tryd.underlying24 info5_Lx1 rfl (by decide) ot hob (perm_r11 (A := [_])) ot (by simp) (by simp [maxLen]; omega) (by simp; omega) (fun b41 cp41 h141 h241 => ?_)
      refine OD.perm (perm_q11 (S1 := [⟨b41, 5, cp41 * 1, List.flatMap cB ((acc) ++ [byteAt s i])⟩]) (A := [_])) ?_
      refine OD.still (wants_plain rfl) rfl (still_as rfl ot) ?_
      refine OD.wk (Wk.as_ (n := 43) (l' := [(0, _), (2, _), (5, _), (6, _)]) (S' := (⟨b2, 30, 3, [_, _, _]⟩ :: [⟨b41, 5, cp41 * 1, List.flatMap cB ((acc) ++ [byteAt s i])⟩])) rfl rfl ⟨lk, lk, lk, lk, trivial⟩) ?_
      refine OD.nil ?_
      refine CD.region ?_
      refine OD.still (wants_plain rfl) rfl (still_mv rfl ot) ?_
      refine OD.still (wants_plain rfl) rfl (still_bin rfl ot opd_const (bin_add (wrap_i64 (by omega) (by omega)))) ?_
      refine OD.still (wants_plain rfl) rfl (still_as rfl ot) ?_
      refine OD.wk (Wk.as_ (n := 43) (l' := [(0, _), (2, _), (5, _), (6, _)]) (S' := (⟨b2, 30, 3, [_, _, _]⟩ :: [⟨b41, 5, cp41 * 1, List.flatMap cB ((acc) ++ [byteAt s i])⟩])) rfl rfl ⟨lk, lk, lk, lk, trivial⟩) ?_
      refine OD.nil ?_
      refine ⟨((i + 1), (acc ++ [byteAt s i]), (some ⟨b41, 0, none⟩), cp41, [⟨b41, 5, cp41 * 1, List.flatMap cB ((acc) ++ [byteAt s i])⟩]), ⟨43, [(0, .v (.string s)), (2, .v (.pointer (some ⟨b2, 0, none⟩))), (5, .v (.slice ((some ⟨b41, 0, none⟩)) (((acc ++ [byteAt s i]))).length cp41)), (6, .v (.int .i64 (((i + 1)) : Nat)))], ((⟨b2, 30, 3, cT noTk⟩ : Blk) :: ([⟨b41, 5, cp41 * 1, List.flatMap cB ((acc) ++ [byteAt s i])⟩]))⟩, ?_, Wk.asS (n := 43) rfl (by repeat (first | exact List.Sublist.refl _ | apply List.Sublist.cons_cons | apply List.Sublist.cons)) ⟨(by (repeat (first | exact look_hit | (apply look_at; focus (first | rfl | (simp; done) | (congr 2; omega) | (apply row_eq; simp; done))) | (apply look_miss; focus rfl))); done), (by (repeat (first | exact look_hit | (apply look_at; focus (first | rfl | (simp; done) | (congr 2; omega) | (apply row_eq; simp; done))) | (apply look_miss; focus rfl))); done), (by (repeat (first | exact look_hit | (apply look_at; focus (first | rfl | (simp; done) | (congr 2; omega) | (apply row_eq; simp; done))) | (apply look_miss; focus rfl))); done), (by (repeat (first | exact look_hit | (apply look_at; focus (first | rfl | (simp; done) | (congr 2; omega) | (apply row_eq; simp; done))) | (apply look_miss; focus rfl))); done), trivial⟩, (hst.symm.trans ht), (by simp; omega), (by omega), (OwnL.cast (ownL_row h141 h241) (by first | rfl | simp)), rfl⟩
      first | omega | (simp only []; omega)
  · have hc0' := hc0
    (try simp only [decide_eq_true_eq, decide_eq_false_iff_not, beq_iff_eq, bne_iff_ne, Bool.not_eq_true', Bool.not_eq_false', Bool.not_eq_true, Bool.not_eq_false, beq_eq_false_iff_ne, ne_eq, bne_eq_false_iff_eq, Bool.and_eq_true, Bool.or_eq_true, Bool.not_not, Bool.and_eq_false_iff, Bool.or_eq_false_iff, Int.not_lt, Int.not_le] at hc0')
    have hshort := text_short (acc := acc) (show s.data.toList.length ≤ i by omega)
    rw [ht] at hshort
    refine CD.exit ?_
    refine CD.seq ?_
    refine CD.region ?_
    refine OD.still (wants_plain rfl) rfl (still_bld (pl := []) (ds := [_, _, _]) rfl Tryd.zeroValue30 Tryd.runUnderlying30 places30_Lx1 trivial rfl rfl) ?_
    refine OD.store (k := 0) (cs' := [_, _, _]) (wants_plain rfl) rfl rfl ot rfl rfl ot rfl rfl Tryd.sizeOf30 rfl rfl rfl ?_
    refine OD.still (wants_plain rfl) rfl (still_as rfl opd_const) ?_
    refine OD.still (wants_plain rfl) rfl (still_as rfl opd_const) ?_
    refine OD.wk (Wk.as_ (n := 43) (l' := [(2, _), (3, _), (4, _)]) (S' := (⟨b2, 30, 3, [_, _, _]⟩ :: Sb)) rfl rfl ⟨lk, lk, lk, trivial⟩) ?_
    refine OD.nil ?_
    refine CD.ret ?_
    refine ⟨.inr rfl, _, [], List.nil_sublist _, ret_three Tryd.results29 (res_cells (k := 0) (ds := [_, _, _]) (Nat.le_of_ble_eq_true rfl) lk rfl rfl Tryd.isAgg30 Tryd.sizeOf30 rfl rfl) (res_tmp (Nat.le_of_ble_eq_true rfl) lk) (res_tmp (Nat.le_of_ble_eq_true rfl) lk), ?_⟩
    first | (rw [hend]; exact ⟨rfl, rfl⟩) | (rw [hshort]; exact ⟨rfl, rfl⟩)

theorem span_len (p : UInt8 → Bool) (s : ByteArray) : spanN p s ≤ s.size := by
  rw [← str_len s]
  exact (List.takeWhile_prefix p).length_le
theorem ext_span (p : UInt8 → Bool) (s : ByteArray) : (s.extract 0 (spanN p s)).data.toList = s.data.toList.takeWhile p := by
  rw [ByteArray.data_extract, Array.toList_extract]
  have := List.prefix_iff_eq_take.1 (List.takeWhile_prefix (l := s.data.toList) p)
  show (s.data.toList.drop 0).take (spanN p s - 0) = _
  rw [List.drop_zero, Nat.sub_zero]
  exact this.symm
theorem byte0 (s : ByteArray) : s.data.toList.getD 0 0 = byteAt s 0 := rfl
theorem one_word {s : ByteArray} (h : letterB (byteAt s 0) = true) : oneF s.data.toList = (⟨1, s.extract 0 (spanN wordB s), 0⟩, spanN wordB s, 0) := by
  unfold oneF
  rw [byte0, if_pos h]
  have : s.extract 0 (spanN wordB s) = ⟨(s.data.toList.takeWhile wordB).toArray⟩ := str_ext (by rw [ext_span])
  rw [this]; rfl
theorem after_eq (s : ByteArray) : afterL s.data.toList = (decide (spanN digitB s < s.size) && letterB (byteAt s (spanN digitB s))) := by
  unfold afterL
  have ht : s.data.toList.dropWhile digitB = s.data.toList.drop (spanN digitB s) := by
    have h1 := List.takeWhile_append_dropWhile (p := digitB) (l := s.data.toList)
    conv => rhs; rw [← h1]
    exact (List.drop_left).symm
  rw [ht]
  by_cases h : spanN digitB s < s.size
  · have hl : spanN digitB s < s.data.toList.length := by rw [str_len]; exact h
    rw [List.drop_eq_getElem_cons hl, byteAt_get hl]
    simp [h]
  · rw [List.drop_eq_nil_of_le (by rw [str_len]; omega)]
    simp [h]
theorem one_after {s : ByteArray} (h0 : letterB (byteAt s 0) = false) (h1 : digitB (byteAt s 0) = true) (h2 : (decide (spanN digitB s < s.size) && letterB (byteAt s (spanN digitB s))) = true) : oneF s.data.toList = (noTk, 0, 6) := by
  unfold oneF
  rw [byte0, if_neg (by rw [h0]; simp), if_pos h1, after_eq, if_pos h2]
theorem one_num {s : ByteArray} (h0 : letterB (byteAt s 0) = false) (h1 : digitB (byteAt s 0) = true) (h2 : (decide (spanN digitB s < s.size) && letterB (byteAt s (spanN digitB s))) = false) : oneF s.data.toList = numL s.data.toList := by
  unfold oneF
  rw [byte0, if_neg (by rw [h0]; simp), if_pos h1, after_eq, if_neg (by rw [h2]; simp)]
theorem num_ok {s : ByteArray} {v : Int} (h : Lib.atoiAll (s.extract 0 (spanN digitB s)).data.toList = .ok v) : numL s.data.toList = (⟨2, ⟨#[]⟩, v⟩, spanN digitB s, 0) := by
  rw [ext_span] at h
  unfold numL
  rw [h]; rfl
theorem num_over {s : ByteArray} (h : Lib.atoiAll (s.extract 0 (spanN digitB s)).data.toList = .range) : numL s.data.toList = (noTk, 0, 5) := by
  rw [ext_span] at h
  unfold numL
  rw [h]
theorem one_text {s : ByteArray} (h0 : letterB (byteAt s 0) = false) (h1 : digitB (byteAt s 0) = false) (h2 : byteAt s 0 = 39) : oneF s.data.toList = textG (s.data.toList.drop 1) [] 1 := by
  unfold oneF
  rw [byte0, if_neg (by rw [h0]; simp), if_neg (by rw [h1]; simp), if_pos h2]
theorem one_mark {s : ByteArray} (h0 : letterB (byteAt s 0) = false) (h1 : digitB (byteAt s 0) = false) (h2 : byteAt s 0 ≠ 39) : oneF s.data.toList = markL s.data.toList := by
  unfold oneF
  rw [byte0, if_neg (by rw [h0]; simp), if_neg (by rw [h1]; simp), if_neg h2]
theorem mark_hit {l : List UInt8} {k : Nat} (hk : k < marksB.length) (h0 : ∀ m ∈ marksB.take k, m.isPrefixOf l = false) (h1 : marksB[k].isPrefixOf l = true) : markL l = (⟨4, ⟨marksB[k].toArray⟩, 0⟩, marksB[k].length, 0) := by
  have : marksB.find? (fun m => m.isPrefixOf l) = some marksB[k] := by
    rw [List.find?_eq_some_iff_getElem]
    refine ⟨h1, k, hk, rfl, fun j hj => ?_⟩
    have := h0 marksB[j] (List.mem_take_iff_getElem.2 ⟨j, by omega, rfl⟩)
    rw [this]; rfl
  unfold markL
  rw [this]
theorem mark_none {l : List UInt8} (h0 : ∀ m ∈ marksB.take 12, m.isPrefixOf l = false) : markL l = (noTk, 0, 6) := by
  have : marksB.find? (fun m => m.isPrefixOf l) = none := by
    rw [List.find?_eq_none]
    intro m hm; rw [h0 m hm]; simp
  unfold markL
  rw [this]
theorem marks_at {k : Nat} (hk : k < marksB.length) : (marksC.map D.v)[k * 1]? = some (.v (.string ⟨marksB[k].toArray⟩)) := by
  have h2 : k < (marksC.map D.v).length := by rw [List.length_map]; exact hk
  rw [Nat.mul_one, List.getElem?_eq_getElem h2]
  simp [marksC, marksL]
theorem pref_vp (s p : ByteArray) : VP Tryd.prog G 30 [.v (.string s), .v (.string p)] (.v (.bool (p.data.toList.isPrefixOf s.data.toList))) :=
  VP.ofCalls (P := Tryd.prog) (G := G) (f := 30) (vs := [.string s, .string p]) (v := .bool (p.data.toList.isPrefixOf s.data.toList)) fun w _ =>
    (Tryd.strings_HasPrefix s p w).mono fun e w' ⟨h1, h2⟩ => ⟨h1, h2 ▸ Below.refl _ _⟩

theorem takeW_all (p : UInt8 → Bool) : ∀ (l : List UInt8) (c : UInt8), c ∈ l.takeWhile p → p c = true
  | [], c, h => by cases h
  | a :: r, c, h => by
    rw [List.takeWhile_cons] at h
    split at h
    · rcases List.mem_cons.1 h with rfl | h
      · assumption
      · exact takeW_all p r c h
    · cases h
theorem takeW_ne {p : UInt8 → Bool} {l : List UInt8} (h : p (l.getD 0 0) = true) (h0 : 0 < l.length) : l.takeWhile p ≠ [] := by
  match l, h0 with
  | a :: r, _ =>
    have h : p a = true := h
    rw [List.takeWhile_cons, if_pos h]; simp

set_option maxHeartbeats 4000000 in
set_option maxRecDepth 100000 in
theorem one_vp (hm : (0, marksC) ∈ G) (s : ByteArray) (h0 : 0 < s.size) (hs : s.size ≤ 1000000) (hov : (oneF s.data.toList).2.2 = 5 → RangeVar G) : VP Tryd.prog G 17 [.v (.string s)] (tokD (oneF s.data.toList)) := by
  refine VC.body Tryd.func17 rfl Tryd.ntmps17 (Nat.le_of_ble_eq_true rfl) fun X0 w0 S00 => ?_
  have hmx : maxLen = 9223372036854775807 := rfl
  have hw1 := span_len wordB s
  have hw2 := span_len digitB s
  refine CD.seq ?_
  refine CD.region ?_
  refine OD.alloc (ds := [_, _, _]) (wants_plain rfl) rfl rfl Tryd.zeroValue30 rfl (fun b2 => ?_)
  refine OD.still (wants_plain rfl) rfl (still_as rfl opd_const) ?_
  refine OD.still (wants_plain rfl) rfl (still_as rfl opd_const) ?_
  refine OD.wk (Wk.as_ (n := 74) (l' := [(0, _), (2, _)]) (S' := [⟨b2, 30, 3, [_, _, _]⟩]) rfl rfl ⟨lk, lk, trivial⟩) ?_
  refine OD.nil ?_
  refine CD.seq ?_
  refine CD.block ?_
  refine CD.seq ?_
  refine CD.region ?_
  refine OD.still (wants_plain rfl) rfl (still_mv rfl ot) ?_
  refine OD.still (wants_plain rfl) rfl (still_sidx (c := byteAt s 0) rfl ot opd_const Tryd.runUnderlying9 rfl (str_at h0)) ?_
  refine OD.callP (wants_plain rfl) rfl rfl rfl Tryd.call25 (letter_vp _) ⟨ot, trivial⟩ ?_
  refine OD.still (wants_plain rfl) rfl (still_as rfl ot) ?_
  refine OD.wk (Wk.as_ (n := 74) (l' := [(0, _), (2, _), (11, _)]) (S' := [⟨b2, 30, 3, [_, _, _]⟩]) rfl rfl ⟨lk, lk, lk, trivial⟩) ?_
  refine OD.nil ?_
  refine CD.cond ot (fun hc0 => ?_) (fun hc0 => ?_)
  · have hc0' := hc0
    (try simp only [decide_eq_true_eq, decide_eq_false_iff_not, beq_iff_eq, bne_iff_ne, Bool.not_eq_true', Bool.not_eq_false', Bool.not_eq_true, Bool.not_eq_false, beq_eq_false_iff_ne, ne_eq, bne_eq_false_iff_eq, Bool.and_eq_true, Bool.or_eq_true, Bool.not_not, Bool.and_eq_false_iff, Bool.or_eq_false_iff, Int.not_lt, Int.not_le] at hc0')
    have hone := one_word hc0
    refine CD.seq ?_
    refine CD.region ?_
    refine OD.still (wants_plain rfl) rfl (still_mv rfl ot) ?_
    refine OD.callP (wants_plain rfl) rfl rfl rfl Tryd.call15 (span_vp s 26 wordB Tryd.call26 one1_vp (by omega)) ⟨ot, opd_func, trivial⟩ ?_
    refine OD.still (wants_plain rfl) rfl (still_as rfl ot) ?_
    refine OD.wk (Wk.as_ (n := 74) (l' := [(0, _), (2, _), (5, _)]) (S' := [⟨b2, 30, 3, [_, _, _]⟩]) rfl rfl ⟨lk, lk, lk, trivial⟩) ?_
    refine OD.nil ?_
    refine CD.seq ?_
    refine CD.region ?_
    refine OD.still (wants_plain rfl) rfl (still_mv rfl ot) ?_
    refine OD.still (wants_plain rfl) rfl (still_mv rfl ot) ?_
    refine OD.still (wants_plain rfl) rfl (still_rs (l := 0) (h := spanN wordB s) rfl ot trivial ⟨_, ot⟩ (by first | exact sl_str (fun _ => rfl) (fun h => by cases h) Tryd.runUnderlying9 (by omega) (by omega))) ?_
    refine OD.still (wants_plain rfl) rfl (still_bld (pl := [(0, _), (1, _)]) (ds := [_, _, _]) rfl Tryd.zeroValue30 Tryd.runUnderlying30 places30_Lx1 ⟨rfl, opd_const, rfl, ot, trivial⟩ rfl rfl) ?_
    refine OD.still (wants_plain rfl) rfl (still_mv rfl ot) ?_
    refine OD.store (k := 0) (cs' := [_, _, _]) (wants_plain rfl) rfl rfl ot rfl rfl ot rfl rfl Tryd.sizeOf30 rfl rfl rfl ?_
    refine OD.still (wants_plain rfl) rfl (still_as rfl ot) ?_
    refine OD.still (wants_plain rfl) rfl (still_as rfl opd_const) ?_
    refine OD.wk (Wk.as_ (n := 74) (l' := [(2, _), (3, _), (4, _)]) (S' := [⟨b2, 30, 3, [_, _, _]⟩]) rfl rfl ⟨lk, lk, lk, trivial⟩) ?_
    refine OD.nil ?_
    refine CD.ret ?_
    refine ⟨.inr rfl, _, [], List.nil_sublist _, ret_three Tryd.results17 (res_cells (k := 0) (ds := [_, _, _]) (Nat.le_of_ble_eq_true rfl) lk rfl rfl Tryd.isAgg30 Tryd.sizeOf30 rfl rfl) (res_tmp (Nat.le_of_ble_eq_true rfl) lk) (res_tmp (Nat.le_of_ble_eq_true rfl) lk), ?_⟩
    rw [hone]; exact ⟨rfl, rfl⟩
  · have hc0' := hc0
    (try simp only [decide_eq_true_eq, decide_eq_false_iff_not, beq_iff_eq, bne_iff_ne, Bool.not_eq_true', Bool.not_eq_false', Bool.not_eq_true, Bool.not_eq_false, beq_eq_false_iff_ne, ne_eq, bne_eq_false_iff_eq, Bool.and_eq_true, Bool.or_eq_true, Bool.not_not, Bool.and_eq_false_iff, Bool.or_eq_false_iff, Int.not_lt, Int.not_le] at hc0')
    have hl0 : letterB (byteAt s 0) = false := hc0
    refine CD.seq ?_
    refine CD.region ?_
    refine OD.still (wants_plain rfl) rfl (still_mv rfl ot) ?_
    refine OD.still (wants_plain rfl) rfl (still_sidx (c := byteAt s 0) rfl ot opd_const Tryd.runUnderlying9 rfl (str_at h0)) ?_
    refine OD.callP (wants_plain rfl) rfl rfl rfl Tryd.call27 (digit_vp _) ⟨ot, trivial⟩ ?_
    refine OD.still (wants_plain rfl) rfl (still_as rfl ot) ?_
    refine OD.wk (Wk.as_ (n := 74) (l' := [(0, _), (2, _), (22, _)]) (S' := [⟨b2, 30, 3, [_, _, _]⟩]) rfl rfl ⟨lk, lk, lk, trivial⟩) ?_
    refine OD.nil ?_
    refine CD.cond ot (fun hc1 => ?_) (fun hc1 => ?_)
    · have hc1' := hc1
      (try simp only [decide_eq_true_eq, decide_eq_false_iff_not, beq_iff_eq, bne_iff_ne, Bool.not_eq_true', Bool.not_eq_false', Bool.not_eq_true, Bool.not_eq_false, beq_eq_false_iff_ne, ne_eq, bne_eq_false_iff_eq, Bool.and_eq_true, Bool.or_eq_true, Bool.not_not, Bool.and_eq_false_iff, Bool.or_eq_false_iff, Int.not_lt, Int.not_le] at hc1')
      have hd0 : digitB (byteAt s 0) = true := hc1
      refine CD.seq ?_
      refine CD.region ?_
      refine OD.still (wants_plain rfl) rfl (still_mv rfl ot) ?_
      refine OD.callP (wants_plain rfl) rfl rfl rfl Tryd.call15 (span_vp s 27 digitB Tryd.call27 digit_vp (by omega)) ⟨ot, opd_func, trivial⟩ ?_
      refine OD.still (wants_plain rfl) rfl (still_as rfl ot) ?_
      refine OD.wk (Wk.as_ (n := 74) (l' := [(0, _), (2, _), (6, _)]) (S' := [⟨b2, 30, 3, [_, _, _]⟩]) rfl rfl ⟨lk, lk, lk, trivial⟩) ?_
      refine OD.nil ?_
      refine CD.seq ?_
      refine CD.seq ?_
      refine CD.region ?_
      refine OD.still (wants_plain rfl) rfl (still_mv rfl ot) ?_
      refine OD.still (wants_plain rfl) rfl (still_mv rfl ot) ?_
      refine OD.still (wants_plain rfl) rfl (still_slen rfl rfl ot Tryd.runUnderlying9) ?_
      refine OD.still (wants_plain rfl) rfl (still_bin rfl ot ot bin_lss) ?_
      refine OD.still (wants_plain rfl) rfl (still_mv rfl ot) ?_
      refine OD.split (t := 32) lk (fun hg32 => ?_) (fun hg32 => ?_)
      · have hg32' := hg32; (try simp only [decide_eq_true_eq, decide_eq_false_iff_not, beq_iff_eq, bne_iff_ne, Bool.not_eq_true', Bool.not_eq_false', Bool.not_eq_true, Bool.not_eq_false, beq_eq_false_iff_ne, ne_eq, bne_eq_false_iff_eq, Bool.and_eq_true, Bool.or_eq_true, Bool.not_not] at hg32')
        have hsn : spanN digitB s < s.size := by simp at *; omega
        refine OD.still (wants_T rfl rfl rfl lk (by first | rfl | assumption)) rfl (still_mv rfl ot) ?_
        refine OD.still (wants_T rfl rfl rfl lk (by first | rfl | assumption)) rfl (still_mv rfl ot) ?_
        refine OD.still (wants_T rfl rfl rfl lk (by first | rfl | assumption)) rfl (still_sidx (c := byteAt s (spanN digitB s)) rfl ot ot Tryd.runUnderlying9 rfl (str_at hsn)) ?_
        refine OD.callP (wants_T rfl rfl rfl lk (by first | rfl | assumption)) rfl rfl rfl Tryd.call25 (letter_vp _) ⟨ot, trivial⟩ ?_
        refine OD.still (wants_plain rfl) rfl (still_pickT rfl ot (by first | rfl | assumption) ot) ?_
        refine OD.wk (Wk.as_ (n := 74) (l' := [(0, _), (2, _), (6, _), (37, _)]) (S' := [⟨b2, 30, 3, [_, _, _]⟩]) rfl rfl ⟨lk, lk, lk, lk, trivial⟩) ?_
        refine OD.nil ?_
        refine CD.cond ot (fun hc2 => ?_) (fun hc2 => ?_)
        · have hc2' := hc2
          (try simp only [decide_eq_true_eq, decide_eq_false_iff_not, beq_iff_eq, bne_iff_ne, Bool.not_eq_true', Bool.not_eq_false', Bool.not_eq_true, Bool.not_eq_false, beq_eq_false_iff_ne, ne_eq, bne_eq_false_iff_eq, Bool.and_eq_true, Bool.or_eq_true, Bool.not_not, Bool.and_eq_false_iff, Bool.or_eq_false_iff, Int.not_lt, Int.not_le] at hc2')
          have hone := one_after hl0 hd0 (by simp at *; simp [*])
          refine CD.seq ?_
          refine CD.region ?_
          refine OD.still (wants_plain rfl) rfl (still_bld (pl := []) (ds := [_, _, _]) rfl Tryd.zeroValue30 Tryd.runUnderlying30 places30_Lx1 trivial rfl rfl) ?_
          refine OD.store (k := 0) (cs' := [_, _, _]) (wants_plain rfl) rfl rfl ot rfl rfl ot rfl rfl Tryd.sizeOf30 rfl rfl rfl ?_
          refine OD.still (wants_plain rfl) rfl (still_as rfl opd_const) ?_
          refine OD.still (wants_plain rfl) rfl (still_as rfl opd_const) ?_
          refine OD.wk (Wk.as_ (n := 74) (l' := [(2, _), (3, _), (4, _)]) (S' := [⟨b2, 30, 3, [_, _, _]⟩]) rfl rfl ⟨lk, lk, lk, trivial⟩) ?_
          refine OD.nil ?_
          refine CD.ret ?_
          refine ⟨.inr rfl, _, [], List.nil_sublist _, ret_three Tryd.results17 (res_cells (k := 0) (ds := [_, _, _]) (Nat.le_of_ble_eq_true rfl) lk rfl rfl Tryd.isAgg30 Tryd.sizeOf30 rfl rfl) (res_tmp (Nat.le_of_ble_eq_true rfl) lk) (res_tmp (Nat.le_of_ble_eq_true rfl) lk), ?_⟩
          rw [hone]; exact ⟨rfl, rfl⟩
        · have hc2' := hc2
          (try simp only [decide_eq_true_eq, decide_eq_false_iff_not, beq_iff_eq, bne_iff_ne, Bool.not_eq_true', Bool.not_eq_false', Bool.not_eq_true, Bool.not_eq_false, beq_eq_false_iff_ne, ne_eq, bne_eq_false_iff_eq, Bool.and_eq_true, Bool.or_eq_true, Bool.not_not, Bool.and_eq_false_iff, Bool.or_eq_false_iff, Int.not_lt, Int.not_le] at hc2')
          have ha0 : (decide (spanN digitB s < s.size) && letterB (byteAt s (spanN digitB s))) = false := by first | (rw [hc2]; simp; done) | (simp at *; simp [*]; done) | (simp at *; omega)
          refine CD.skip ?_
          refine CD.seq ?_
          refine CD.region ?_
          refine OD.still (wants_plain rfl) rfl (still_mv rfl ot) ?_
          refine OD.still (wants_plain rfl) rfl (still_mv rfl ot) ?_
          refine OD.still (wants_plain rfl) rfl (still_rs (l := 0) (h := spanN digitB s) rfl ot trivial ⟨_, ot⟩ (by first | exact sl_str (fun _ => rfl) (fun h => by cases h) Tryd.runUnderlying9 (by omega) (by omega))) ?_
          refine OD.call (wants_plain rfl) rfl rfl rfl Tryd.call28 (atoi_vc (s.extract 0 (spanN digitB s)) (by rw [← str_len, ext_span]; have := (List.takeWhile_prefix (l := s.data.toList) digitB).length_le; rw [str_len] at this; omega) (by rw [ext_span]; intro c hc; exact takeW_all _ _ c hc) (by rw [ext_span]; exact takeW_ne (by rw [byte0]; exact hd0) (by rw [str_len]; exact h0)) (fun hr => hov (by rw [one_num hl0 hd0 ha0, num_over hr]))) ⟨ot, trivial⟩ (perm_none _) ?_
          rintro _ S43 ⟨rfl, h43⟩
          rcases h43 with ⟨v, hv, rfl⟩ | ⟨hv, v, te, pe, rfl⟩
          · skip
            have hn1 := num_ok hv
            have hone := one_num hl0 hd0 ha0
            rw [hn1] at hone
            refine OD.still (wants_plain rfl) rfl (still_mv rfl ot) ?_
            refine OD.still (wants_plain rfl) rfl (still_extract rfl ot rfl) ?_
            refine OD.still (wants_plain rfl) rfl (still_extract rfl ot rfl) ?_
            refine OD.still (wants_plain rfl) rfl (still_as rfl ot) ?_
            refine OD.still (wants_plain rfl) rfl (still_as rfl ot) ?_
            refine OD.wk (Wk.as_ (n := 74) (l' := [(2, _), (6, _), (7, _), (8, _)]) (S' := [⟨b2, 30, 3, [_, _, _]⟩]) rfl rfl ⟨lk, lk, lk, lk, trivial⟩) ?_
            refine OD.nil ?_
            refine CD.seq ?_
            refine CD.seq ?_
            refine CD.region ?_
            refine OD.still (wants_plain rfl) rfl (still_mv rfl ot) ?_
            refine OD.still (wants_plain rfl) rfl (still_errNo rfl ot Tryd.underlying54) ?_
            refine OD.wk (Wk.as_ (n := 74) (l' := [(2, _), (6, _), (7, _), (47, _)]) (S' := [⟨b2, 30, 3, [_, _, _]⟩]) rfl rfl ⟨lk, lk, lk, lk, trivial⟩) ?_
            refine OD.nil ?_
            refine CD.cond ot (fun hc3 => ?_) (fun hc3 => ?_)
            · exact absurd hc3 (by simp at hc3)
            · have hc3' := hc3
              (try simp only [decide_eq_true_eq, decide_eq_false_iff_not, beq_iff_eq, bne_iff_ne, Bool.not_eq_true', Bool.not_eq_false', Bool.not_eq_true, Bool.not_eq_false, beq_eq_false_iff_ne, ne_eq, bne_eq_false_iff_eq, Bool.and_eq_true, Bool.or_eq_true, Bool.not_not, Bool.and_eq_false_iff, Bool.or_eq_false_iff, Int.not_lt, Int.not_le] at hc3')
              refine CD.skip ?_
              refine CD.seq ?_
              refine CD.region ?_
              refine OD.still (wants_plain rfl) rfl (still_mv rfl ot) ?_
              refine OD.still (wants_plain rfl) rfl (still_bld (pl := [(0, _), (2, _)]) (ds := [_, _, _]) rfl Tryd.zeroValue30 Tryd.runUnderlying30 places30_Lx1 ⟨rfl, opd_const, rfl, ot, trivial⟩ rfl rfl) ?_
              refine OD.still (wants_plain rfl) rfl (still_mv rfl ot) ?_
              refine OD.store (k := 0) (cs' := [_, _, _]) (wants_plain rfl) rfl rfl ot rfl rfl ot rfl rfl Tryd.sizeOf30 rfl rfl rfl ?_
              refine OD.still (wants_plain rfl) rfl (still_as rfl ot) ?_
              refine OD.still (wants_plain rfl) rfl (still_as rfl opd_const) ?_
              refine OD.wk (Wk.as_ (n := 74) (l' := [(2, _), (3, _), (4, _)]) (S' := [⟨b2, 30, 3, [_, _, _]⟩]) rfl rfl ⟨lk, lk, lk, trivial⟩) ?_
              refine OD.nil ?_
              refine CD.ret ?_
              refine ⟨.inr rfl, _, [], List.nil_sublist _, ret_three Tryd.results17 (res_cells (k := 0) (ds := [_, _, _]) (Nat.le_of_ble_eq_true rfl) lk rfl rfl Tryd.isAgg30 Tryd.sizeOf30 rfl rfl) (res_tmp (Nat.le_of_ble_eq_true rfl) lk) (res_tmp (Nat.le_of_ble_eq_true rfl) lk), ?_⟩
              rw [hone]; exact ⟨rfl, rfl⟩
          · skip
            have hn1 := num_over hv
            have hone := one_num hl0 hd0 ha0
            rw [hn1] at hone
            refine OD.still (wants_plain rfl) rfl (still_mv rfl ot) ?_
            refine OD.still (wants_plain rfl) rfl (still_extract rfl ot rfl) ?_
            refine OD.still (wants_plain rfl) rfl (still_extract rfl ot rfl) ?_
            refine OD.still (wants_plain rfl) rfl (still_as rfl ot) ?_
            refine OD.still (wants_plain rfl) rfl (still_as rfl ot) ?_
            refine OD.wk (Wk.as_ (n := 74) (l' := [(2, _), (6, _), (7, _), (8, _)]) (S' := [⟨b2, 30, 3, [_, _, _]⟩]) rfl rfl ⟨lk, lk, lk, lk, trivial⟩) ?_
            refine OD.nil ?_
            refine CD.seq ?_
            refine CD.seq ?_
            refine CD.region ?_
            refine OD.still (wants_plain rfl) rfl (still_mv rfl ot) ?_
            refine OD.still (wants_plain rfl) rfl (still_errYes rfl ot Tryd.underlying54) ?_
            refine OD.wk (Wk.as_ (n := 74) (l' := [(2, _), (6, _), (7, _), (47, _)]) (S' := [⟨b2, 30, 3, [_, _, _]⟩]) rfl rfl ⟨lk, lk, lk, lk, trivial⟩) ?_
            refine OD.nil ?_
            refine CD.cond ot (fun hc3 => ?_) (fun hc3 => ?_)
            · have hc3' := hc3
              (try simp only [decide_eq_true_eq, decide_eq_false_iff_not, beq_iff_eq, bne_iff_ne, Bool.not_eq_true', Bool.not_eq_false', Bool.not_eq_true, Bool.not_eq_false, beq_eq_false_iff_ne, ne_eq, bne_eq_false_iff_eq, Bool.and_eq_true, Bool.or_eq_true, Bool.not_not, Bool.and_eq_false_iff, Bool.or_eq_false_iff, Int.not_lt, Int.not_le] at hc3')
              refine CD.seq ?_
              refine CD.region ?_
              refine OD.still (wants_plain rfl) rfl (still_bld (pl := []) (ds := [_, _, _]) rfl Tryd.zeroValue30 Tryd.runUnderlying30 places30_Lx1 trivial rfl rfl) ?_
              refine OD.store (k := 0) (cs' := [_, _, _]) (wants_plain rfl) rfl rfl ot rfl rfl ot rfl rfl Tryd.sizeOf30 rfl rfl rfl ?_
              refine OD.still (wants_plain rfl) rfl (still_as rfl opd_const) ?_
              refine OD.still (wants_plain rfl) rfl (still_as rfl opd_const) ?_
              refine OD.wk (Wk.as_ (n := 74) (l' := [(2, _), (3, _), (4, _)]) (S' := [⟨b2, 30, 3, [_, _, _]⟩]) rfl rfl ⟨lk, lk, lk, trivial⟩) ?_
              refine OD.nil ?_
              refine CD.ret ?_
              refine ⟨.inr rfl, _, [], List.nil_sublist _, ret_three Tryd.results17 (res_cells (k := 0) (ds := [_, _, _]) (Nat.le_of_ble_eq_true rfl) lk rfl rfl Tryd.isAgg30 Tryd.sizeOf30 rfl rfl) (res_tmp (Nat.le_of_ble_eq_true rfl) lk) (res_tmp (Nat.le_of_ble_eq_true rfl) lk), ?_⟩
              rw [hone]; exact ⟨rfl, rfl⟩
            · exact absurd hc3 (by simp at hc3)
      · have hg32' := hg32; (try simp only [decide_eq_true_eq, decide_eq_false_iff_not, beq_iff_eq, bne_iff_ne, Bool.not_eq_true', Bool.not_eq_false', Bool.not_eq_true, Bool.not_eq_false, beq_eq_false_iff_ne, ne_eq, bne_eq_false_iff_eq, Bool.and_eq_true, Bool.or_eq_true, Bool.not_not] at hg32')
        refine OD.skip (wants_F rfl rfl rfl lk (by first | rfl | assumption)) rfl ?_
        refine OD.skip (wants_F rfl rfl rfl lk (by first | rfl | assumption)) rfl ?_
        refine OD.skip (wants_F rfl rfl rfl lk (by first | rfl | assumption)) rfl ?_
        refine OD.skip (wants_F rfl rfl rfl lk (by first | rfl | assumption)) rfl ?_
        refine OD.still (wants_plain rfl) rfl (still_pickF rfl ot (by first | rfl | assumption) opd_const) ?_
        refine OD.wk (Wk.as_ (n := 74) (l' := [(0, _), (2, _), (6, _), (37, _)]) (S' := [⟨b2, 30, 3, [_, _, _]⟩]) rfl rfl ⟨lk, lk, lk, lk, trivial⟩) ?_
        refine OD.nil ?_
        refine CD.condF ot (by first | rfl | assumption) ?_
        have ha0 : (decide (spanN digitB s < s.size) && letterB (byteAt s (spanN digitB s))) = false := by first | (rw [hc2]; simp; done) | (simp at *; simp [*]; done) | (simp at *; omega)
        refine CD.skip ?_
        refine CD.seq ?_
        refine CD.region ?_
        refine OD.still (wants_plain rfl) rfl (still_mv rfl ot) ?_
        refine OD.still (wants_plain rfl) rfl (still_mv rfl ot) ?_
        refine OD.still (wants_plain rfl) rfl (still_rs (l := 0) (h := spanN digitB s) rfl ot trivial ⟨_, ot⟩ (by first | exact sl_str (fun _ => rfl) (fun h => by cases h) Tryd.runUnderlying9 (by omega) (by omega))) ?_
        refine OD.call (wants_plain rfl) rfl rfl rfl Tryd.call28 (atoi_vc (s.extract 0 (spanN digitB s)) (by rw [← str_len, ext_span]; have := (List.takeWhile_prefix (l := s.data.toList) digitB).length_le; rw [str_len] at this; omega) (by rw [ext_span]; intro c hc; exact takeW_all _ _ c hc) (by rw [ext_span]; exact takeW_ne (by rw [byte0]; exact hd0) (by rw [str_len]; exact h0)) (fun hr => hov (by rw [one_num hl0 hd0 ha0, num_over hr]))) ⟨ot, trivial⟩ (perm_none _) ?_
        rintro _ S43 ⟨rfl, h43⟩
        rcases h43 with ⟨v, hv, rfl⟩ | ⟨hv, v, te, pe, rfl⟩
        · skip
          have hn1 := num_ok hv
          have hone := one_num hl0 hd0 ha0
          rw [hn1] at hone
          refine OD.still (wants_plain rfl) rfl (still_mv rfl ot) ?_
          refine OD.still (wants_plain rfl) rfl (still_extract rfl ot rfl) ?_
          refine OD.still (wants_plain rfl) rfl (still_extract rfl ot rfl) ?_
          refine OD.still (wants_plain rfl) rfl (still_as rfl ot) ?_
          refine OD.still (wants_plain rfl) rfl (still_as rfl ot) ?_
          refine OD.wk (Wk.as_ (n := 74) (l' := [(2, _), (6, _), (7, _), (8, _)]) (S' := [⟨b2, 30, 3, [_, _, _]⟩]) rfl rfl ⟨lk, lk, lk, lk, trivial⟩) ?_
          refine OD.nil ?_
          refine CD.seq ?_
          refine CD.seq ?_
          refine CD.region ?_
          refine OD.still (wants_plain rfl) rfl (still_mv rfl ot) ?_
          refine OD.still (wants_plain rfl) rfl (still_errNo rfl ot Tryd.underlying54) ?_
          refine OD.wk (Wk.as_ (n := 74) (l' := [(2, _), (6, _), (7, _), (47, _)]) (S' := [⟨b2, 30, 3, [_, _, _]⟩]) rfl rfl ⟨lk, lk, lk, lk, trivial⟩) ?_
          refine OD.nil ?_
          refine CD.cond ot (fun hc3 => ?_) (fun hc3 => ?_)
          · exact absurd hc3 (by simp at hc3)
          · have hc3' := hc3
            (try simp only [decide_eq_true_eq, decide_eq_false_iff_not, beq_iff_eq, bne_iff_ne, Bool.not_eq_true', Bool.not_eq_false', Bool.not_eq_true, Bool.not_eq_false, beq_eq_false_iff_ne, ne_eq, bne_eq_false_iff_eq, Bool.and_eq_true, Bool.or_eq_true, Bool.not_not, Bool.and_eq_false_iff, Bool.or_eq_false_iff, Int.not_lt, Int.not_le] at hc3')
            refine CD.skip ?_
            refine CD.seq ?_
            refine CD.region ?_
            refine OD.still (wants_plain rfl) rfl (still_mv rfl ot) ?_
            refine OD.still (wants_plain rfl) rfl (still_bld (pl := [(0, _), (2, _)]) (ds := [_, _, _]) rfl Tryd.zeroValue30 Tryd.runUnderlying30 places30_Lx1 ⟨rfl, opd_const, rfl, ot, trivial⟩ rfl rfl) ?_
            refine OD.still (wants_plain rfl) rfl (still_mv rfl ot) ?_
            refine OD.store (k := 0) (cs' := [_, _, _]) (wants_plain rfl) rfl rfl ot rfl rfl ot rfl rfl Tryd.sizeOf30 rfl rfl rfl ?_
            refine OD.still (wants_plain rfl) rfl (still_as rfl ot) ?_
            refine OD.still (wants_plain rfl) rfl (still_as rfl opd_const) ?_
            refine OD.wk (Wk.as_ (n := 74) (l' := [(2, _), (3, _), (4, _)]) (S' := [⟨b2, 30, 3, [_, _, _]⟩]) rfl rfl ⟨lk, lk, lk, trivial⟩) ?_
            refine OD.nil ?_
            refine CD.ret ?_
            refine ⟨.inr rfl, _, [], List.nil_sublist _, ret_three Tryd.results17 (res_cells (k := 0) (ds := [_, _, _]) (Nat.le_of_ble_eq_true rfl) lk rfl rfl Tryd.isAgg30 Tryd.sizeOf30 rfl rfl) (res_tmp (Nat.le_of_ble_eq_true rfl) lk) (res_tmp (Nat.le_of_ble_eq_true rfl) lk), ?_⟩
            rw [hone]; exact ⟨rfl, rfl⟩
        · skip
          have hn1 := num_over hv
          have hone := one_num hl0 hd0 ha0
          rw [hn1] at hone
          refine OD.still (wants_plain rfl) rfl (still_mv rfl ot) ?_
          refine OD.still (wants_plain rfl) rfl (still_extract rfl ot rfl) ?_
          refine OD.still (wants_plain rfl) rfl (still_extract rfl ot rfl) ?_
          refine OD.still (wants_plain rfl) rfl (still_as rfl ot) ?_
          refine OD.still (wants_plain rfl) rfl (still_as rfl ot) ?_
          refine OD.wk (Wk.as_ (n := 74) (l' := [(2, _), (6, _), (7, _), (8, _)]) (S' := [⟨b2, 30, 3, [_, _, _]⟩]) rfl rfl ⟨lk, lk, lk, lk, trivial⟩) ?_
          refine OD.nil ?_
          refine CD.seq ?_
          refine CD.seq ?_
          refine CD.region ?_
          refine OD.still (wants_plain rfl) rfl (still_mv rfl ot) ?_
          refine OD.still (wants_plain rfl) rfl (still_errYes rfl ot Tryd.underlying54) ?_
          refine OD.wk (Wk.as_ (n := 74) (l' := [(2, _), (6, _), (7, _), (47, _)]) (S' := [⟨b2, 30, 3, [_, _, _]⟩]) rfl rfl ⟨lk, lk, lk, lk, trivial⟩) ?_
          refine OD.nil ?_
          refine CD.cond ot (fun hc3 => ?_) (fun hc3 => ?_)
          · have hc3' := hc3
            (try simp only [decide_eq_true_eq, decide_eq_false_iff_not, beq_iff_eq, bne_iff_ne, Bool.not_eq_true', Bool.not_eq_false', Bool.not_eq_true, Bool.not_eq_false, beq_eq_false_iff_ne, ne_eq, bne_eq_false_iff_eq, Bool.and_eq_true, Bool.or_eq_true, Bool.not_not, Bool.and_eq_false_iff, Bool.or_eq_false_iff, Int.not_lt, Int.not_le] at hc3')
            refine CD.seq ?_
            refine CD.region ?_
            refine OD.still (wants_plain rfl) rfl (still_bld (pl := []) (ds := [_, _, _]) rfl Tryd.zeroValue30 Tryd.runUnderlying30 places30_Lx1 trivial rfl rfl) ?_
            refine OD.store (k := 0) (cs' := [_, _, _]) (wants_plain rfl) rfl rfl ot rfl rfl ot rfl rfl Tryd.sizeOf30 rfl rfl rfl ?_
            refine OD.still (wants_plain rfl) rfl (still_as rfl opd_const) ?_
            refine OD.still (wants_plain rfl) rfl (still_as rfl opd_const) ?_
            refine OD.wk (Wk.as_ (n := 74) (l' := [(2, _), (3, _), (4, _)]) (S' := [⟨b2, 30, 3, [_, _, _]⟩]) rfl rfl ⟨lk, lk, lk, trivial⟩) ?_
            refine OD.nil ?_
            refine CD.ret ?_
            refine ⟨.inr rfl, _, [], List.nil_sublist _, ret_three Tryd.results17 (res_cells (k := 0) (ds := [_, _, _]) (Nat.le_of_ble_eq_true rfl) lk rfl rfl Tryd.isAgg30 Tryd.sizeOf30 rfl rfl) (res_tmp (Nat.le_of_ble_eq_true rfl) lk) (res_tmp (Nat.le_of_ble_eq_true rfl) lk), ?_⟩
            rw [hone]; exact ⟨rfl, rfl⟩
          · exact absurd hc3 (by simp at hc3)
    · have hc1' := hc1
      (try simp only [decide_eq_true_eq, decide_eq_false_iff_not, beq_iff_eq, bne_iff_ne, Bool.not_eq_true', Bool.not_eq_false', Bool.not_eq_true, Bool.not_eq_false, beq_eq_false_iff_ne, ne_eq, bne_eq_false_iff_eq, Bool.and_eq_true, Bool.or_eq_true, Bool.not_not, Bool.and_eq_false_iff, Bool.or_eq_false_iff, Int.not_lt, Int.not_le] at hc1')
      have hd0 : digitB (byteAt s 0) = false := hc1
      refine CD.seq ?_
      refine CD.region ?_
      refine OD.still (wants_plain rfl) rfl (still_mv rfl ot) ?_
      refine OD.still (wants_plain rfl) rfl (still_sidx (c := byteAt s 0) rfl ot opd_const Tryd.runUnderlying9 rfl (str_at h0)) ?_
      refine OD.still (wants_plain rfl) rfl (still_bin rfl ot opd_const bin_eql) ?_
      refine OD.still (wants_plain rfl) rfl (still_as rfl ot) ?_
      refine OD.wk (Wk.as_ (n := 74) (l' := [(0, _), (2, _), (52, _)]) (S' := [⟨b2, 30, 3, [_, _, _]⟩]) rfl rfl ⟨lk, lk, lk, trivial⟩) ?_
      refine OD.nil ?_
      refine CD.cond ot (fun hc4 => ?_) (fun hc4 => ?_)
      · have hc4' := hc4
        (try simp only [decide_eq_true_eq, decide_eq_false_iff_not, beq_iff_eq, bne_iff_ne, Bool.not_eq_true', Bool.not_eq_false', Bool.not_eq_true, Bool.not_eq_false, beq_eq_false_iff_ne, ne_eq, bne_eq_false_iff_eq, Bool.and_eq_true, Bool.or_eq_true, Bool.not_not, Bool.and_eq_false_iff, Bool.or_eq_false_iff, Int.not_lt, Int.not_le] at hc4')
        have hq : byteAt s 0 = 39 := UInt8.toNat_inj.1 (by simp at hc4; show (byteAt s 0).toNat = 39; omega)
        have hone := one_text hl0 hd0 hq
        refine CD.seq ?_
        refine CD.region ?_
        refine OD.still (wants_plain rfl) rfl (still_mv rfl ot) ?_
        refine OD.callP (wants_plain rfl) rfl rfl rfl Tryd.call29 (text_vp s hs) ⟨ot, trivial⟩ ?_
        refine OD.still (wants_plain rfl) rfl (still_extract rfl ot rfl) ?_
        refine OD.still (wants_plain rfl) rfl (still_extract rfl ot rfl) ?_
        refine OD.still (wants_plain rfl) rfl (still_extract rfl ot rfl) ?_
        refine OD.store (k := 0) (cs' := [_, _, _]) (wants_plain rfl) rfl rfl ot rfl rfl ot rfl rfl Tryd.sizeOf30 rfl rfl rfl ?_
        refine OD.still (wants_plain rfl) rfl (still_as rfl ot) ?_
        refine OD.still (wants_plain rfl) rfl (still_as rfl ot) ?_
        refine OD.wk (Wk.as_ (n := 74) (l' := [(2, _), (3, _), (4, _)]) (S' := [⟨b2, 30, 3, [_, _, _]⟩]) rfl rfl ⟨lk, lk, lk, trivial⟩) ?_
        refine OD.nil ?_
        refine CD.ret ?_
        refine ⟨.inr rfl, _, [], List.nil_sublist _, ret_three Tryd.results17 (res_cells (k := 0) (ds := [_, _, _]) (Nat.le_of_ble_eq_true rfl) lk rfl rfl Tryd.isAgg30 Tryd.sizeOf30 rfl rfl) (res_tmp (Nat.le_of_ble_eq_true rfl) lk) (res_tmp (Nat.le_of_ble_eq_true rfl) lk), ?_⟩
        rw [hone]; exact ⟨rfl, rfl⟩
      · have hc4' := hc4
        (try simp only [decide_eq_true_eq, decide_eq_false_iff_not, beq_iff_eq, bne_iff_ne, Bool.not_eq_true', Bool.not_eq_false', Bool.not_eq_true, Bool.not_eq_false, beq_eq_false_iff_ne, ne_eq, bne_eq_false_iff_eq, Bool.and_eq_true, Bool.or_eq_true, Bool.not_not, Bool.and_eq_false_iff, Bool.or_eq_false_iff, Int.not_lt, Int.not_le] at hc4')
        have hq : byteAt s 0 ≠ 39 := fun e => by rw [e] at hc4; simp at hc4
        have hone := one_mark hl0 hd0 hq
        refine CD.skip ?_
        refine CD.seq ?_
        refine CD.seq ?_
        refine CD.region ?_
        refine OD.still (wants_plain rfl) rfl (still_r1 (mk := Op.load 62) rfl opd_glob (ld_tabs hm Tryd.isAgg62 Tryd.sizeOf62 rfl)) ?_
        refine OD.still (wants_plain rfl) rfl (still_mv rfl opd_const) ?_
        refine OD.wk (Wk.as_ (n := 74) (l' := [(0, _), (2, _), (61, _), (62, _)]) (S' := [⟨b2, 30, 3, [_, _, _]⟩]) rfl rfl ⟨lk, lk, lk, lk, trivial⟩) ?_
        refine OD.nil ?_
        refine CD.block ?_
        refine CD.wk (Wk.asS (n := 74) (l' := [(0, .v (.string s)), (2, .v (.pointer (some ⟨b2, 0, none⟩))), (61, .agg (marksC.map .v)), (62, .v (.int .i64 ((0) : Nat)))]) (S' := [⟨b2, 30, 3, cT noTk⟩]) rfl (by repeat (first | exact List.Sublist.refl _ | apply List.Sublist.cons)) ⟨(by (repeat (first | exact look_hit | (apply look_at; focus (first | rfl | (simp; done) | (congr 2; omega))) | (apply look_miss; focus rfl))); done), (by (repeat (first | exact look_hit | (apply look_at; focus (first | rfl | (simp; done) | (congr 2; omega))) | (apply look_miss; focus rfl))); done), (by (repeat (first | exact look_hit | (apply look_at; focus (first | rfl | (simp; done) | (congr 2; omega))) | (apply look_miss; focus rfl))); done), (by (repeat (first | exact look_hit | (apply look_at; focus (first | rfl | (simp; done) | (congr 2; omega))) | (apply look_miss; focus rfl))); done), trivial⟩) (CD.loop (fun (k : Nat) y__ => (k ≤ 12) ∧ (∀ m ∈ marksB.take k, m.isPrefixOf s.data.toList = false) ∧ y__ = (⟨74, [(0, .v (.string s)), (2, .v (.pointer (some ⟨b2, 0, none⟩))), (61, .agg (marksC.map .v)), (62, .v (.int .i64 (k : Nat)))], [⟨b2, 30, 3, cT noTk⟩]⟩ : St)) (fun (k : Nat) => 12 - k) 0 ⟨(Nat.zero_le _), (by simp), rfl⟩ ?_)
        rintro k _ ⟨hk, hno, rfl⟩
        refine CD.seq ?_
        refine CD.region ?_
        refine OD.still (wants_plain rfl) rfl (still_bin rfl ot opd_const bin_lss) ?_
        refine OD.wk (Wk.as_ (n := 74) (l' := [(0, _), (2, _), (61, _), (62, _), (63, _)]) (S' := [⟨b2, 30, 3, [_, _, _]⟩]) rfl rfl ⟨lk, lk, lk, lk, lk, trivial⟩) ?_
        refine OD.nil ?_
        refine CD.seq ?_
        refine CD.cond ot (fun hc5 => ?_) (fun hc5 => ?_)
        · have hc5' := hc5
          (try simp only [decide_eq_true_eq, decide_eq_false_iff_not, beq_iff_eq, bne_iff_ne, Bool.not_eq_true', Bool.not_eq_false', Bool.not_eq_true, Bool.not_eq_false, beq_eq_false_iff_ne, ne_eq, bne_eq_false_iff_eq, Bool.and_eq_true, Bool.or_eq_true, Bool.not_not, Bool.and_eq_false_iff, Bool.or_eq_false_iff, Int.not_lt, Int.not_le] at hc5')
          have hk12 : k < 12 := by omega
          have hkm : k < marksB.length := hk12
          refine CD.skip ?_
          refine CD.seq ?_
          refine CD.block ?_
          refine CD.seq ?_
          refine CD.region ?_
          refine OD.still (wants_plain rfl) rfl (still_vidx (j := k) rfl ot ot Tryd.runUnderlying62 Tryd.sizeOf9 Tryd.isAgg9 rfl (by omega) (marks_at hkm)) ?_
          refine OD.still (wants_plain rfl) rfl (still_as rfl ot) ?_
          refine OD.wk (Wk.as_ (n := 74) (l' := [(0, _), (2, _), (10, _), (61, _), (62, _)]) (S' := [⟨b2, 30, 3, [_, _, _]⟩]) rfl rfl ⟨lk, lk, lk, lk, lk, trivial⟩) ?_
          refine OD.nil ?_
          refine CD.seq ?_
          refine CD.region ?_
          refine OD.still (wants_plain rfl) rfl (still_mv rfl ot) ?_
          refine OD.still (wants_plain rfl) rfl (still_mv rfl ot) ?_
          refine OD.callP (wants_plain rfl) rfl rfl rfl Tryd.call30 (pref_vp _ _) ⟨ot, ot, trivial⟩ ?_
          refine OD.wk (Wk.as_ (n := 74) (l' := [(0, _), (2, _), (10, _), (61, _), (62, _), (67, _)]) (S' := [⟨b2, 30, 3, [_, _, _]⟩]) rfl rfl ⟨lk, lk, lk, lk, lk, lk, trivial⟩) ?_
          refine OD.nil ?_
          refine CD.cond ot (fun hc6 => ?_) (fun hc6 => ?_)
          · have hc6' := hc6
            (try simp only [decide_eq_true_eq, decide_eq_false_iff_not, beq_iff_eq, bne_iff_ne, Bool.not_eq_true', Bool.not_eq_false', Bool.not_eq_true, Bool.not_eq_false, beq_eq_false_iff_ne, ne_eq, bne_eq_false_iff_eq, Bool.and_eq_true, Bool.or_eq_true, Bool.not_not, Bool.and_eq_false_iff, Bool.or_eq_false_iff, Int.not_lt, Int.not_le] at hc6')
            have hmk := mark_hit hkm hno hc6
            rw [hmk] at hone
            refine CD.seq ?_
            refine CD.region ?_
            refine OD.still (wants_plain rfl) rfl (still_mv rfl ot) ?_
            refine OD.still (wants_plain rfl) rfl (still_bld (pl := [(0, _), (1, _)]) (ds := [_, _, _]) rfl Tryd.zeroValue30 Tryd.runUnderlying30 places30_Lx1 ⟨rfl, opd_const, rfl, ot, trivial⟩ rfl rfl) ?_
            refine OD.still (wants_plain rfl) rfl (still_mv rfl ot) ?_
            refine OD.still (wants_plain rfl) rfl (still_slen rfl rfl ot Tryd.runUnderlying9) ?_
            refine OD.store (k := 0) (cs' := [_, _, _]) (wants_plain rfl) rfl rfl ot rfl rfl ot rfl rfl Tryd.sizeOf30 rfl rfl rfl ?_
            refine OD.still (wants_plain rfl) rfl (still_as rfl ot) ?_
            refine OD.still (wants_plain rfl) rfl (still_as rfl opd_const) ?_
            refine OD.wk (Wk.as_ (n := 74) (l' := [(2, _), (3, _), (4, _)]) (S' := [⟨b2, 30, 3, [_, _, _]⟩]) rfl rfl ⟨lk, lk, lk, trivial⟩) ?_
            refine OD.nil ?_
            refine CD.ret ?_
            refine ⟨.inr rfl, _, [], List.nil_sublist _, ret_three Tryd.results17 (res_cells (k := 0) (ds := [_, _, _]) (Nat.le_of_ble_eq_true rfl) lk rfl rfl Tryd.isAgg30 Tryd.sizeOf30 rfl rfl) (res_tmp (Nat.le_of_ble_eq_true rfl) lk) (res_tmp (Nat.le_of_ble_eq_true rfl) lk), ?_⟩
            rw [hone]; exact ⟨rfl, rfl⟩
          · have hc6' := hc6
            (try simp only [decide_eq_true_eq, decide_eq_false_iff_not, beq_iff_eq, bne_iff_ne, Bool.not_eq_true', Bool.not_eq_false', Bool.not_eq_true, Bool.not_eq_false, beq_eq_false_iff_ne, ne_eq, bne_eq_false_iff_eq, Bool.and_eq_true, Bool.or_eq_true, Bool.not_not, Bool.and_eq_false_iff, Bool.or_eq_false_iff, Int.not_lt, Int.not_le] at hc6')
            refine CD.skip ?_
            refine CD.region ?_
            refine OD.still (wants_plain rfl) rfl (still_bin rfl ot opd_const (bin_add (wrap_i64 (by omega) (by omega)))) ?_
            refine OD.still (wants_plain rfl) rfl (still_mv rfl ot) ?_
            refine OD.wk (Wk.as_ (n := 74) (l' := [(0, _), (2, _), (61, _), (62, _)]) (S' := [⟨b2, 30, 3, [_, _, _]⟩]) rfl rfl ⟨lk, lk, lk, lk, trivial⟩) ?_
            refine OD.nil ?_
            refine ⟨(k + 1), ⟨74, [(0, .v (.string s)), (2, .v (.pointer (some ⟨b2, 0, none⟩))), (61, .agg (marksC.map .v)), (62, .v (.int .i64 (((k + 1)) : Nat)))], [⟨b2, 30, 3, cT noTk⟩]⟩, ?_, Wk.asS (n := 74) rfl (by repeat (first | exact List.Sublist.refl _ | apply List.Sublist.cons)) ⟨(by (repeat (first | exact look_hit | (apply look_at; focus (first | rfl | (simp; done) | (congr 2; omega))) | (apply look_miss; focus rfl))); done), (by (repeat (first | exact look_hit | (apply look_at; focus (first | rfl | (simp; done) | (congr 2; omega))) | (apply look_miss; focus rfl))); done), (by (repeat (first | exact look_hit | (apply look_at; focus (first | rfl | (simp; done) | (congr 2; omega))) | (apply look_miss; focus rfl))); done), (by (repeat (first | exact look_hit | (apply look_at; focus (first | rfl | (simp; done) | (congr 2; omega))) | (apply look_miss; focus rfl))); done), trivial⟩, (by omega), (all_step (p := fun m => m.isPrefixOf s.data.toList = false) hkm hno hc6), rfl⟩
            first | omega | (simp only []; omega)
        · have hc5' := hc5
          (try simp only [decide_eq_true_eq, decide_eq_false_iff_not, beq_iff_eq, bne_iff_ne, Bool.not_eq_true', Bool.not_eq_false', Bool.not_eq_true, Bool.not_eq_false, beq_eq_false_iff_ne, ne_eq, bne_eq_false_iff_eq, Bool.and_eq_true, Bool.or_eq_true, Bool.not_not, Bool.and_eq_false_iff, Bool.or_eq_false_iff, Int.not_lt, Int.not_le] at hc5')
          have hk12 : k = 12 := by omega
          subst hk12
          have hmk := mark_none hno
          rw [hmk] at hone
          refine CD.exit ?_
          refine CD.seq ?_
          refine CD.region ?_
          refine OD.still (wants_plain rfl) rfl (still_bld (pl := []) (ds := [_, _, _]) rfl Tryd.zeroValue30 Tryd.runUnderlying30 places30_Lx1 trivial rfl rfl) ?_
          refine OD.store (k := 0) (cs' := [_, _, _]) (wants_plain rfl) rfl rfl ot rfl rfl ot rfl rfl Tryd.sizeOf30 rfl rfl rfl ?_
          refine OD.still (wants_plain rfl) rfl (still_as rfl opd_const) ?_
          refine OD.still (wants_plain rfl) rfl (still_as rfl opd_const) ?_
          refine OD.wk (Wk.as_ (n := 74) (l' := [(2, _), (3, _), (4, _)]) (S' := [⟨b2, 30, 3, [_, _, _]⟩]) rfl rfl ⟨lk, lk, lk, trivial⟩) ?_
          refine OD.nil ?_
          refine CD.ret ?_
          refine ⟨.inr rfl, _, [], List.nil_sublist _, ret_three Tryd.results17 (res_cells (k := 0) (ds := [_, _, _]) (Nat.le_of_ble_eq_true rfl) lk rfl rfl Tryd.isAgg30 Tryd.sizeOf30 rfl rfl) (res_tmp (Nat.le_of_ble_eq_true rfl) lk) (res_tmp (Nat.le_of_ble_eq_true rfl) lk), ?_⟩
          rw [hone]; exact ⟨rfl, rfl⟩

end Go.Proofs.YtdlcfkkkjklanaaDoor.Lx

namespace Go.Proofs.YtdlcfkkkjklanaaDoor.Lx
open Go.RowKit V Go.Proofs.YtdlcfkkkjklanaaDoor.Nm Go.Proofs.YtdlcfkkkjklanaaDoor.Pk
set_option linter.unusedVariables false
set_option linter.unusedSimpArgs false

def blankB (c : UInt8) : Bool := decide (c.toNat = 32 ∨ c.toNat = 9 ∨ c.toNat = 10 ∨ c.toNat = 13)
def cutG : Nat → List UInt8 → Nat → List Tk → List Tk × Nat × Int
  | 0, _, _, _ => ([], 0, 0)
  | n + 1, l, a, acc =>
    if l.dropWhile blankB = [] then (acc, 0, 0)
    else if acc.length = 100 then ([], a + (l.takeWhile blankB).length, 10)
    else if (oneF (l.dropWhile blankB)).2.2 ≠ 0 then ([], a + (l.takeWhile blankB).length, (oneF (l.dropWhile blankB)).2.2)
    else cutG n ((l.dropWhile blankB).drop (oneF (l.dropWhile blankB)).2.1) (a + (l.takeWhile blankB).length + (oneF (l.dropWhile blankB)).2.1) (acc ++ [(oneF (l.dropWhile blankB)).1])
/-- The tokens of a text; where it goes wrong, and why. -/
def cutF (l : List UInt8) : List Tk × Nat × Int := if l.length > 400 then ([], 0, 1) else cutG (l.length + 1) l 0 []
def cutD (r : List Tk × Nat × Int) : D := .tup [.list 3 (r.1.flatMap cT) r.1.length, .v (.int .i64 (r.2.1 : Nat)), .v (.int .i64 r.2.2)]
theorem text_pos : ∀ (l acc : List UInt8) (i : Nat), (textG l acc i).2.2 = 0 → i + 1 ≤ (textG l acc i).2.1 ∧ (textG l acc i).2.1 ≤ i + l.length
  | [], _, _, h => by simp [textG] at h
  | [c], acc, i, h => by
    rw [textG] at h ⊢
    by_cases hc : c = 39
    · rw [if_pos hc]; simp
    · rw [if_neg hc] at h; simp at h
  | c :: d :: r, acc, i, h => by
    rw [textG] at h ⊢
    by_cases hc : c = 39
    · rw [if_pos hc] at h ⊢
      by_cases hd : d = 39
      · rw [if_pos hd] at h ⊢
        have := text_pos r (acc ++ [39]) (i + 2) h
        simp only [List.length_cons]; omega
      · rw [if_neg hd]; simp
    · rw [if_neg hc] at h ⊢
      have := text_pos (d :: r) (acc ++ [c]) (i + 1) h
      simp only [List.length_cons] at this ⊢; omega
theorem marks_pos : ∀ m ∈ marksB, 1 ≤ m.length := by decide
theorem tw_pos {p : UInt8 → Bool} {l : List UInt8} (h : p (l.getD 0 0) = true) (h0 : l ≠ []) : 1 ≤ (l.takeWhile p).length := List.length_pos_iff.2 (takeW_ne h (List.length_pos_iff.2 h0))
/-- A token has a byte at least, and no more than there are. -/
theorem one_pos {l : List UInt8} (h0 : l ≠ []) (h : (oneF l).2.2 = 0) : 1 ≤ (oneF l).2.1 ∧ (oneF l).2.1 ≤ l.length := by
  unfold oneF at h ⊢
  by_cases h1 : letterB (l.getD 0 0) = true
  · rw [if_pos h1]
    exact ⟨tw_pos (by unfold wordB; rw [h1]; rfl) h0, (List.takeWhile_prefix _).length_le⟩
  · rw [if_neg h1] at h ⊢
    by_cases h2 : digitB (l.getD 0 0) = true
    · rw [if_pos h2] at h ⊢
      by_cases h3 : afterL l = true
      · rw [if_pos h3] at h; simp at h
      · rw [if_neg h3] at h ⊢
        unfold numL at h ⊢
        rcases ha : Lib.atoiAll (l.takeWhile digitB) with v | _ | _
        · exact ⟨tw_pos h2 h0, (List.takeWhile_prefix _).length_le⟩
        · rw [ha] at h; simp at h
        · rw [ha] at h; simp at h
    · rw [if_neg h2] at h ⊢
      by_cases h3 : l.getD 0 0 = 39
      · rw [if_pos h3] at h ⊢
        have := text_pos _ _ _ h
        rw [List.length_drop] at this
        have := List.length_pos_iff.2 h0
        omega
      · rw [if_neg h3] at h ⊢
        unfold markL at h ⊢
        cases hf : marksB.find? (fun m => m.isPrefixOf l) with
        | none => rw [hf] at h; simp at h
        | some m =>
          have hp : m.isPrefixOf l = true := List.find?_some (p := fun m : List UInt8 => m.isPrefixOf l) hf
          exact ⟨marks_pos m (List.mem_of_find?_eq_some hf), (List.isPrefixOf_iff_prefix.1 hp).length_le⟩
theorem drop_span (p : UInt8 → Bool) (s : ByteArray) (a : Nat) : (s.data.toList.drop a).dropWhile p = s.data.toList.drop (a + ((s.data.toList.drop a).takeWhile p).length) := by
  have h1 := List.takeWhile_append_dropWhile (p := p) (l := s.data.toList.drop a)
  rw [← List.drop_drop]
  conv => rhs; rw [← h1]
  rw [List.takeWhile_append_dropWhile]
  have h2 : (s.data.toList.drop a).dropWhile p = ((s.data.toList.drop a).takeWhile p ++ (s.data.toList.drop a).dropWhile p).drop ((s.data.toList.drop a).takeWhile p).length := List.drop_left.symm
  rw [h1] at h2
  exact h2
theorem ext_tail (s : ByteArray) (a : Nat) : (s.extract a s.size).data.toList = s.data.toList.drop a := by
  rw [ByteArray.data_extract, Array.toList_extract]
  show (s.data.toList.drop a).take (s.size - a) = _
  exact List.take_of_length_le (by rw [List.length_drop, str_len]; exact Nat.le_refl _)
theorem ext_size (s : ByteArray) (a : Nat) : (s.extract a s.size).size = s.size - a := by rw [← str_len, ext_tail, List.length_drop, str_len]
variable {G : List (Nat × List Value)}

set_option maxHeartbeats 4000000 in
set_option maxRecDepth 100000 in
theorem blank_vp (c : UInt8) : VP Tryd.prog G 16 [.v (.int .u8 ((c).toNat : Int))] (.v (.bool (blankB c))) := by
  refine VC.body Tryd.func16 rfl Tryd.ntmps16 (Nat.le_of_ble_eq_true rfl) fun X0 w0 S00 => ?_
  refine CD.seq ?_
  refine CD.region ?_
  refine OD.still (wants_plain rfl) rfl (still_as rfl opd_const) ?_
  refine OD.wk (Wk.as_ (n := 17) (l' := [(0, _)]) (S' := []) rfl rfl ⟨lk, trivial⟩) ?_
  refine OD.nil ?_
  refine CD.seq ?_
  refine CD.region ?_
  refine OD.still (wants_plain rfl) rfl (still_mv rfl ot) ?_
  refine OD.still (wants_plain rfl) rfl (still_bin rfl ot opd_const bin_eql) ?_
  refine OD.still (wants_plain rfl) rfl (still_mv rfl ot) ?_
  refine OD.split (t := 5) lk (fun hg5 => ?_) (fun hg5 => ?_)
  · have hg5' := hg5; (try simp only [decide_eq_true_eq, decide_eq_false_iff_not, beq_iff_eq, bne_iff_ne, Bool.not_eq_true', Bool.not_eq_false', Bool.not_eq_true, Bool.not_eq_false, beq_eq_false_iff_ne, ne_eq, bne_eq_false_iff_eq, Bool.and_eq_true, Bool.or_eq_true, Bool.not_not] at hg5')
    refine OD.skip (wants_F rfl rfl rfl lk (by first | rfl | assumption)) rfl ?_
    refine OD.skip (wants_F rfl rfl rfl lk (by first | rfl | assumption)) rfl ?_
    refine OD.still (wants_plain rfl) rfl (still_pickT rfl ot (by first | rfl | assumption) opd_const) ?_
    refine OD.still (wants_plain rfl) rfl (still_mv rfl ot) ?_
    refine OD.skip (wants_F rfl rfl rfl lk (by first | rfl | assumption)) rfl ?_
    refine OD.skip (wants_F rfl rfl rfl lk (by first | rfl | assumption)) rfl ?_
    refine OD.still (wants_plain rfl) rfl (still_pickT rfl ot (by first | rfl | assumption) opd_const) ?_
    refine OD.still (wants_plain rfl) rfl (still_mv rfl ot) ?_
    refine OD.skip (wants_F rfl rfl rfl lk (by first | rfl | assumption)) rfl ?_
    refine OD.skip (wants_F rfl rfl rfl lk (by first | rfl | assumption)) rfl ?_
    refine OD.still (wants_plain rfl) rfl (still_pickT rfl ot (by first | rfl | assumption) opd_const) ?_
    refine OD.still (wants_plain rfl) rfl (still_as rfl ot) ?_
    refine OD.wk (Wk.as_ (n := 17) (l' := [(2, _)]) (S' := []) rfl rfl ⟨lk, trivial⟩) ?_
    refine OD.nil ?_
    refine CD.ret ?_
    refine ⟨.inr rfl, _, [], List.nil_sublist _, ret_one Tryd.results16 (res_tmp (Nat.le_of_ble_eq_true rfl) lk), ?_⟩
    refine ⟨vb ?_, rfl⟩
    rw [Bool.eq_iff_iff]
    simp [blankB]
    simp at *
    first | done | omega
  · have hg5' := hg5; (try simp only [decide_eq_true_eq, decide_eq_false_iff_not, beq_iff_eq, bne_iff_ne, Bool.not_eq_true', Bool.not_eq_false', Bool.not_eq_true, Bool.not_eq_false, beq_eq_false_iff_ne, ne_eq, bne_eq_false_iff_eq, Bool.and_eq_true, Bool.or_eq_true, Bool.not_not] at hg5')
    refine OD.still (wants_T rfl rfl rfl lk (by first | rfl | assumption)) rfl (still_mv rfl ot) ?_
    refine OD.still (wants_T rfl rfl rfl lk (by first | rfl | assumption)) rfl (still_bin rfl ot opd_const bin_eql) ?_
    refine OD.still (wants_plain rfl) rfl (still_pickF rfl ot (by first | rfl | assumption) ot) ?_
    refine OD.still (wants_plain rfl) rfl (still_mv rfl ot) ?_
    refine OD.split (t := 9) lk (fun hg9 => ?_) (fun hg9 => ?_)
    · have hg9' := hg9; (try simp only [decide_eq_true_eq, decide_eq_false_iff_not, beq_iff_eq, bne_iff_ne, Bool.not_eq_true', Bool.not_eq_false', Bool.not_eq_true, Bool.not_eq_false, beq_eq_false_iff_ne, ne_eq, bne_eq_false_iff_eq, Bool.and_eq_true, Bool.or_eq_true, Bool.not_not] at hg9')
      refine OD.skip (wants_F rfl rfl rfl lk (by first | rfl | assumption)) rfl ?_
      refine OD.skip (wants_F rfl rfl rfl lk (by first | rfl | assumption)) rfl ?_
      refine OD.still (wants_plain rfl) rfl (still_pickT rfl ot (by first | rfl | assumption) opd_const) ?_
      refine OD.still (wants_plain rfl) rfl (still_mv rfl ot) ?_
      refine OD.skip (wants_F rfl rfl rfl lk (by first | rfl | assumption)) rfl ?_
      refine OD.skip (wants_F rfl rfl rfl lk (by first | rfl | assumption)) rfl ?_
      refine OD.still (wants_plain rfl) rfl (still_pickT rfl ot (by first | rfl | assumption) opd_const) ?_
      refine OD.still (wants_plain rfl) rfl (still_as rfl ot) ?_
      refine OD.wk (Wk.as_ (n := 17) (l' := [(2, _)]) (S' := []) rfl rfl ⟨lk, trivial⟩) ?_
      refine OD.nil ?_
      refine CD.ret ?_
      refine ⟨.inr rfl, _, [], List.nil_sublist _, ret_one Tryd.results16 (res_tmp (Nat.le_of_ble_eq_true rfl) lk), ?_⟩
      refine ⟨vb ?_, rfl⟩
      rw [Bool.eq_iff_iff]
      simp [blankB]
      simp at *
      first | done | omega
    · have hg9' := hg9; (try simp only [decide_eq_true_eq, decide_eq_false_iff_not, beq_iff_eq, bne_iff_ne, Bool.not_eq_true', Bool.not_eq_false', Bool.not_eq_true, Bool.not_eq_false, beq_eq_false_iff_ne, ne_eq, bne_eq_false_iff_eq, Bool.and_eq_true, Bool.or_eq_true, Bool.not_not] at hg9')
      refine OD.still (wants_T rfl rfl rfl lk (by first | rfl | assumption)) rfl (still_mv rfl ot) ?_
      refine OD.still (wants_T rfl rfl rfl lk (by first | rfl | assumption)) rfl (still_bin rfl ot opd_const bin_eql) ?_
      refine OD.still (wants_plain rfl) rfl (still_pickF rfl ot (by first | rfl | assumption) ot) ?_
      refine OD.still (wants_plain rfl) rfl (still_mv rfl ot) ?_
      refine OD.split (t := 13) lk (fun hg13 => ?_) (fun hg13 => ?_)
      · have hg13' := hg13; (try simp only [decide_eq_true_eq, decide_eq_false_iff_not, beq_iff_eq, bne_iff_ne, Bool.not_eq_true', Bool.not_eq_false', Bool.not_eq_true, Bool.not_eq_false, beq_eq_false_iff_ne, ne_eq, bne_eq_false_iff_eq, Bool.and_eq_true, Bool.or_eq_true, Bool.not_not] at hg13')
        refine OD.skip (wants_F rfl rfl rfl lk (by first | rfl | assumption)) rfl ?_
        refine OD.skip (wants_F rfl rfl rfl lk (by first | rfl | assumption)) rfl ?_
        refine OD.still (wants_plain rfl) rfl (still_pickT rfl ot (by first | rfl | assumption) opd_const) ?_
        refine OD.still (wants_plain rfl) rfl (still_as rfl ot) ?_
        refine OD.wk (Wk.as_ (n := 17) (l' := [(2, _)]) (S' := []) rfl rfl ⟨lk, trivial⟩) ?_
        refine OD.nil ?_
        refine CD.ret ?_
        refine ⟨.inr rfl, _, [], List.nil_sublist _, ret_one Tryd.results16 (res_tmp (Nat.le_of_ble_eq_true rfl) lk), ?_⟩
        refine ⟨vb ?_, rfl⟩
        rw [Bool.eq_iff_iff]
        simp [blankB]
        simp at *
        first | done | omega
      · have hg13' := hg13; (try simp only [decide_eq_true_eq, decide_eq_false_iff_not, beq_iff_eq, bne_iff_ne, Bool.not_eq_true', Bool.not_eq_false', Bool.not_eq_true, Bool.not_eq_false, beq_eq_false_iff_ne, ne_eq, bne_eq_false_iff_eq, Bool.and_eq_true, Bool.or_eq_true, Bool.not_not] at hg13')
        refine OD.still (wants_T rfl rfl rfl lk (by first | rfl | assumption)) rfl (still_mv rfl ot) ?_
        refine OD.still (wants_T rfl rfl rfl lk (by first | rfl | assumption)) rfl (still_bin rfl ot opd_const bin_eql) ?_
        refine OD.still (wants_plain rfl) rfl (still_pickF rfl ot (by first | rfl | assumption) ot) ?_
        refine OD.still (wants_plain rfl) rfl (still_as rfl ot) ?_
        refine OD.wk (Wk.as_ (n := 17) (l' := [(2, _)]) (S' := []) rfl rfl ⟨lk, trivial⟩) ?_
        refine OD.nil ?_
        refine CD.ret ?_
        refine ⟨.inr rfl, _, [], List.nil_sublist _, ret_one Tryd.results16 (res_tmp (Nat.le_of_ble_eq_true rfl) lk), ?_⟩
        refine ⟨vb ?_, rfl⟩
        rw [Bool.eq_iff_iff]
        simp [blankB]
        simp at *
        first | done | omega

theorem cut_end {n a : Nat} {l : List UInt8} {acc : List Tk} (h : l.dropWhile blankB = []) : cutG (n + 1) l a acc = (acc, 0, 0) := by rw [cutG, if_pos h]
theorem cut_full {n a : Nat} {l : List UInt8} {acc : List Tk} (h : l.dropWhile blankB ≠ []) (h1 : acc.length = 100) : cutG (n + 1) l a acc = ([], a + (l.takeWhile blankB).length, 10) := by rw [cutG, if_neg h, if_pos h1]
theorem cut_err {n a : Nat} {l : List UInt8} {acc : List Tk} (h : l.dropWhile blankB ≠ []) (h1 : acc.length ≠ 100) (h2 : (oneF (l.dropWhile blankB)).2.2 ≠ 0) : cutG (n + 1) l a acc = ([], a + (l.takeWhile blankB).length, (oneF (l.dropWhile blankB)).2.2) := by rw [cutG, if_neg h, if_neg h1, if_pos h2]
theorem cut_next {n a : Nat} {l : List UInt8} {acc : List Tk} (h : l.dropWhile blankB ≠ []) (h1 : acc.length ≠ 100) (h2 : (oneF (l.dropWhile blankB)).2.2 = 0) : cutG (n + 1) l a acc = cutG n ((l.dropWhile blankB).drop (oneF (l.dropWhile blankB)).2.1) (a + (l.takeWhile blankB).length + (oneF (l.dropWhile blankB)).2.1) (acc ++ [(oneF (l.dropWhile blankB)).1]) := by rw [cutG, if_neg h, if_neg h1, if_neg (by simpa using h2)]
theorem tail_ne {s : ByteArray} {a : Nat} (h : a < s.size) : s.data.toList.drop a ≠ [] := fun e => by
  have := congrArg List.length e
  rw [List.length_drop, str_len] at this
  simp at this; omega

theorem info30_Lx2 : (Tryd.prog.info? 30).map (fun i => (i.zero, i.size, i.bytes)) = some (some (.agg #[.int .i64 0, .string ⟨#[]⟩, .int .i64 0]), 3, 32) := by kernel_rfl

set_option maxHeartbeats 4000000 in
set_option maxRecDepth 100000 in
theorem cut_vp (hm : (0, marksC) ∈ G) (s : ByteArray) (hs : s.size ≤ maxLen) (hov : (cutF s.data.toList).2.2 = 5 → RangeVar G) : VP Tryd.prog G 10 [.v (.string s)] (cutD (cutF s.data.toList)) := by
  refine VC.body Tryd.func10 rfl Tryd.ntmps10 (Nat.le_of_ble_eq_true rfl) fun X0 w0 S00 => ?_
  have hmx : maxLen = 9223372036854775807 := rfl
  have hsl := str_len s
  refine CD.seq ?_
  refine CD.region ?_
  refine OD.still (wants_plain rfl) rfl (still_as rfl opd_const) ?_
  refine OD.still (wants_plain rfl) rfl (still_as rfl opd_const) ?_
  refine OD.still (wants_plain rfl) rfl (still_as rfl opd_const) ?_
  refine OD.wk (Wk.as_ (n := 47) (l' := [(0, _)]) (S' := []) rfl rfl ⟨lk, trivial⟩) ?_
  refine OD.nil ?_
  refine CD.seq ?_
  refine CD.seq ?_
  refine CD.region ?_
  refine OD.still (wants_plain rfl) rfl (still_mv rfl ot) ?_
  refine OD.still (wants_plain rfl) rfl (still_slen rfl rfl ot Tryd.runUnderlying9) ?_
  refine OD.still (wants_plain rfl) rfl (still_bin rfl ot opd_const bin_gtr) ?_
  refine OD.wk (Wk.as_ (n := 47) (l' := [(0, _), (12, _)]) (S' := []) rfl rfl ⟨lk, lk, trivial⟩) ?_
  refine OD.nil ?_
  refine CD.cond ot (fun hc0 => ?_) (fun hc0 => ?_)
  · have hc0' := hc0
    (try simp only [decide_eq_true_eq, decide_eq_false_iff_not, beq_iff_eq, bne_iff_ne, Bool.not_eq_true', Bool.not_eq_false', Bool.not_eq_true, Bool.not_eq_false, beq_eq_false_iff_ne, ne_eq, bne_eq_false_iff_eq, Bool.and_eq_true, Bool.or_eq_true, Bool.not_not, Bool.and_eq_false_iff, Bool.or_eq_false_iff, Int.not_lt, Int.not_le] at hc0')
    have hbig : cutF s.data.toList = ([], 0, 1) := by unfold cutF; rw [if_pos (by omega)]
    refine CD.seq ?_
    refine CD.region ?_
    refine OD.still (wants_plain rfl) rfl (still_as rfl opd_const) ?_
    refine OD.still (wants_plain rfl) rfl (still_as rfl opd_const) ?_
    refine OD.still (wants_plain rfl) rfl (still_as rfl opd_const) ?_
    refine OD.wk (Wk.as_ (n := 47) (l' := [(2, _), (3, _), (4, _)]) (S' := []) rfl rfl ⟨lk, lk, lk, trivial⟩) ?_
    refine OD.nil ?_
    refine CD.wk (Wk.giveNil (t := 2) (sz := 3) lk) ?_
    refine CD.ret ?_
    refine ⟨.inr rfl, _, [], List.nil_sublist _, ret_three Tryd.results10 (res_tmp (Nat.le_of_ble_eq_true rfl) lk) (res_tmp (Nat.le_of_ble_eq_true rfl) lk) (res_tmp (Nat.le_of_ble_eq_true rfl) lk), ?_⟩
    first | (rw [hbig]; exact ⟨rfl, rfl⟩) | (rw [hcf, hce]; exact ⟨rfl, rfl⟩)
  · have hc0' := hc0
    (try simp only [decide_eq_true_eq, decide_eq_false_iff_not, beq_iff_eq, bne_iff_ne, Bool.not_eq_true', Bool.not_eq_false', Bool.not_eq_true, Bool.not_eq_false, beq_eq_false_iff_ne, ne_eq, bne_eq_false_iff_eq, Bool.and_eq_true, Bool.or_eq_true, Bool.not_not, Bool.and_eq_false_iff, Bool.or_eq_false_iff, Int.not_lt, Int.not_le] at hc0')
    have hcf : cutF s.data.toList = cutG (s.data.toList.length + 1) s.data.toList 0 [] := by unfold cutF; rw [if_neg (by omega)]
    rw [hcf] at hov
    refine CD.skip ?_
    refine CD.seq ?_
    refine CD.region ?_
    refine OD.still (wants_plain rfl) rfl (still_as rfl opd_const) ?_
    refine OD.wk (Wk.as_ (n := 47) (l' := [(0, _), (5, _)]) (S' := ([])) rfl rfl ⟨lk, lk, trivial⟩) ?_
    refine OD.nil ?_
    refine CD.seq ?_
    refine CD.region ?_
    refine OD.still (wants_plain rfl) rfl (still_as rfl opd_const) ?_
    refine OD.wk (Wk.as_ (n := 47) (l' := [(0, _), (5, _), (6, _)]) (S' := ([])) rfl rfl ⟨lk, lk, lk, trivial⟩) ?_
    refine OD.nil ?_
    refine CD.block ?_
    refine CD.wk (Wk.asS (n := 47) (l' := [(0, .v (.string s)), (5, .v (.slice none (([])).length (0))), (6, .v (.int .i64 ((0) : Nat)))]) (S' := (([]))) rfl (by repeat (first | exact List.Sublist.refl _ | apply List.Sublist.cons_cons | apply List.Sublist.cons)) ⟨(by (repeat (first | exact look_hit | (apply look_at; focus (first | rfl | (simp; done) | (congr 2; omega) | (apply row_eq; simp; done))) | (apply look_miss; focus rfl))); done), (by (repeat (first | exact look_hit | (apply look_at; focus (first | rfl | (simp; done) | (congr 2; omega) | (apply row_eq; simp; done))) | (apply look_miss; focus rfl))); done), (by (repeat (first | exact look_hit | (apply look_at; focus (first | rfl | (simp; done) | (congr 2; omega) | (apply row_eq; simp; done))) | (apply look_miss; focus rfl))); done), trivial⟩) (CD.loop (fun (gh__ : Nat × Nat × List Tk × Option Addr × Nat × List Blk) y__ => match gh__ with | (n, a, acc, adl, cpl, Sl) => (a ≤ s.size) ∧ (s.size - a < n) ∧ (cutG n (s.data.toList.drop a) a acc = cutG (s.data.toList.length + 1) s.data.toList 0 []) ∧ (acc.length ≤ 100) ∧ (OwnL 30 3 ((acc).flatMap cT) (acc).length adl cpl Sl) ∧ y__ = (⟨47, [(0, .v (.string s)), (5, .v (.slice adl (acc).length cpl)), (6, .v (.int .i64 (a : Nat)))], (Sl)⟩ : St)) (fun (gh__ : Nat × Nat × List Tk × Option Addr × Nat × List Blk) => match gh__ with | (n, a, acc, adl, cpl, Sl) => n) ((s.data.toList.length + 1), 0, [], none, 0, []) ⟨(Nat.zero_le _), (by omega), (by rw [List.drop_zero]), (Nat.zero_le _), (OwnL.cast ownL_nil (by first | rfl | simp)), rfl⟩ ?_)
    rintro ⟨n, a, acc, adl, cpl, Sl⟩ _ ⟨ha, han, hc, hal, hol, rfl⟩
    obtain ⟨n, rfl⟩ : ∃ m, n = m + 1 := ⟨n - 1, by omega⟩
    have hes := ext_size s a
    have hkl := span_len blankB (s.extract a s.size)
    have hdw := drop_span blankB s a
    have hkk : ((s.data.toList.drop a).takeWhile blankB).length = (spanN blankB (s.extract a s.size)) := by unfold spanN; rw [ext_tail]
    rw [hkk] at hdw
    refine CD.block ?_
    refine CD.seq ?_
    refine CD.region ?_
    refine OD.still (wants_plain rfl) rfl (still_mv rfl ot) ?_
    refine OD.still (wants_plain rfl) rfl (still_mv rfl ot) ?_
    refine OD.still (wants_plain rfl) rfl (still_mv rfl ot) ?_
    refine OD.still (wants_plain rfl) rfl (still_rs (l := a) rfl ot ⟨_, ot⟩ trivial (by first | exact sl_str (fun h => by cases h) (fun _ => rfl) Tryd.runUnderlying9 (by omega) (by omega))) ?_
    refine OD.callP (wants_plain rfl) rfl rfl rfl Tryd.call15 (span_vp (s.extract a s.size) 16 blankB Tryd.call16 blank_vp (by omega)) ⟨ot, opd_func, trivial⟩ ?_
    refine OD.still (wants_plain rfl) rfl (still_bin (r := .int .i64 ((a + (spanN blankB (s.extract a s.size)) : Nat) : Int)) rfl ot ot (bin_add (by show IntKind.i64.wrap ((a : Int) + ((spanN blankB (s.extract a s.size)) : Nat)) = (a : Int) + ((spanN blankB (s.extract a s.size)) : Nat); exact wrap_i64 (by omega) (by omega)))) ?_
    refine OD.still (wants_plain rfl) rfl (still_as rfl ot) ?_
    refine OD.wk (Wk.as_ (n := 47) (l' := [(0, _), (5, _), (6, _)]) (S' := (Sl)) rfl rfl ⟨lk, lk, lk, trivial⟩) ?_
    refine OD.nil ?_
    refine CD.seq ?_
    refine CD.seq ?_
    refine CD.region ?_
    refine OD.still (wants_plain rfl) rfl (still_mv rfl ot) ?_
    refine OD.still (wants_plain rfl) rfl (still_mv rfl ot) ?_
    refine OD.still (wants_plain rfl) rfl (still_slen rfl rfl ot Tryd.runUnderlying9) ?_
    refine OD.still (wants_plain rfl) rfl (still_bin rfl ot ot bin_eql) ?_
    refine OD.wk (Wk.as_ (n := 47) (l' := [(0, _), (5, _), (6, _), (22, _)]) (S' := (Sl)) rfl rfl ⟨lk, lk, lk, lk, trivial⟩) ?_
    refine OD.nil ?_
    refine CD.cond ot (fun hc1 => ?_) (fun hc1 => ?_)
    · have hc1' := hc1
      (try simp only [decide_eq_true_eq, decide_eq_false_iff_not, beq_iff_eq, bne_iff_ne, Bool.not_eq_true', Bool.not_eq_false', Bool.not_eq_true, Bool.not_eq_false, beq_eq_false_iff_ne, ne_eq, bne_eq_false_iff_eq, Bool.and_eq_true, Bool.or_eq_true, Bool.not_not, Bool.and_eq_false_iff, Bool.or_eq_false_iff, Int.not_lt, Int.not_le] at hc1')
      have hend : a + (spanN blankB (s.extract a s.size)) = s.size := by omega
      have hce := cut_end (n := n) (a := a) (acc := acc) (l := s.data.toList.drop a) (by rw [hdw, hend]; exact List.drop_eq_nil_of_le (by omega))
      rw [hc] at hce
      refine CD.seq ?_
      refine CD.region ?_
      refine OD.still (wants_plain rfl) rfl (still_mv rfl ot) ?_
      refine OD.still (wants_plain rfl) rfl (still_as rfl ot) ?_
      refine OD.still (wants_plain rfl) rfl (still_as rfl opd_const) ?_
      refine OD.still (wants_plain rfl) rfl (still_as rfl opd_const) ?_
      refine OD.wk (Wk.as_ (n := 47) (l' := [(2, _), (3, _), (4, _)]) (S' := (Sl)) rfl rfl ⟨lk, lk, lk, trivial⟩) ?_
      refine OD.nil ?_
      refine CD.giveL (t := 2) (Sq := Sl) lk hol (fm_len cT_len _) (perm_r11 (A := [])) ?_
      refine CD.ret ?_
      refine ⟨.inr rfl, _, [], List.nil_sublist _, ret_three Tryd.results10 (res_tmp (Nat.le_of_ble_eq_true rfl) lk) (res_tmp (Nat.le_of_ble_eq_true rfl) lk) (res_tmp (Nat.le_of_ble_eq_true rfl) lk), ?_⟩
      first | (rw [hbig]; exact ⟨rfl, rfl⟩) | (rw [hcf, hce]; exact ⟨rfl, rfl⟩)
    · have hc1' := hc1
      (try simp only [decide_eq_true_eq, decide_eq_false_iff_not, beq_iff_eq, bne_iff_ne, Bool.not_eq_true', Bool.not_eq_false', Bool.not_eq_true, Bool.not_eq_false, beq_eq_false_iff_ne, ne_eq, bne_eq_false_iff_eq, Bool.and_eq_true, Bool.or_eq_true, Bool.not_not, Bool.and_eq_false_iff, Bool.or_eq_false_iff, Int.not_lt, Int.not_le] at hc1')
      have hlt : a + (spanN blankB (s.extract a s.size)) < s.size := by omega
      have hne : (s.data.toList.drop a).dropWhile blankB ≠ [] := by rw [hdw]; exact tail_ne hlt
      have hes2 := ext_size s (a + (spanN blankB (s.extract a s.size)))
      have het := ext_tail s (a + (spanN blankB (s.extract a s.size)))
      have hd0 : (s.extract (a + (spanN blankB (s.extract a s.size))) s.size).data.toList ≠ [] := by rw [het]; exact tail_ne hlt
      refine CD.skip ?_
      refine CD.seq ?_
      refine CD.seq ?_
      refine CD.region ?_
      refine OD.still (wants_plain rfl) rfl (still_mv rfl ot) ?_
      refine OD.still (wants_plain rfl) rfl (still_r1 (mk := fun y => .call { callee := .builtin .len, args := #[y], argTypes := #[25] }) rfl ot (by first | exact len_list rfl Tryd.runUnderlying25 | exact len_row rfl Tryd.runUnderlying25)) ?_
      refine OD.still (wants_plain rfl) rfl (still_bin rfl ot opd_const bin_eql) ?_
      refine OD.wk (Wk.as_ (n := 47) (l' := [(0, _), (5, _), (6, _), (26, _)]) (S' := (Sl)) rfl rfl ⟨lk, lk, lk, lk, trivial⟩) ?_
      refine OD.nil ?_
      refine CD.cond ot (fun hc2 => ?_) (fun hc2 => ?_)
      · have hc2' := hc2
        (try simp only [decide_eq_true_eq, decide_eq_false_iff_not, beq_iff_eq, bne_iff_ne, Bool.not_eq_true', Bool.not_eq_false', Bool.not_eq_true, Bool.not_eq_false, beq_eq_false_iff_ne, ne_eq, bne_eq_false_iff_eq, Bool.and_eq_true, Bool.or_eq_true, Bool.not_not, Bool.and_eq_false_iff, Bool.or_eq_false_iff, Int.not_lt, Int.not_le] at hc2')
        have hce := cut_full (n := n) (a := a) hne (show acc.length = 100 by omega)
        rw [hkk, hc] at hce
        refine CD.seq ?_
        refine CD.region ?_
        refine OD.still (wants_plain rfl) rfl (still_mv rfl ot) ?_
        refine OD.still (wants_plain rfl) rfl (still_as rfl opd_const) ?_
        refine OD.still (wants_plain rfl) rfl (still_as rfl ot) ?_
        refine OD.still (wants_plain rfl) rfl (still_as rfl opd_const) ?_
        refine OD.wk (Wk.as_ (n := 47) (l' := [(2, _), (3, _), (4, _)]) (S' := (Sl)) rfl rfl ⟨lk, lk, lk, trivial⟩) ?_
        refine OD.nil ?_
        refine CD.wk (Wk.giveNil (t := 2) (sz := 3) lk) ?_
        refine CD.ret ?_
        refine ⟨.inr rfl, _, [], List.nil_sublist _, ret_three Tryd.results10 (res_tmp (Nat.le_of_ble_eq_true rfl) lk) (res_tmp (Nat.le_of_ble_eq_true rfl) lk) (res_tmp (Nat.le_of_ble_eq_true rfl) lk), ?_⟩
        first | (rw [hbig]; exact ⟨rfl, rfl⟩) | (rw [hcf, hce]; exact ⟨rfl, rfl⟩)
      · have hc2' := hc2
        (try simp only [decide_eq_true_eq, decide_eq_false_iff_not, beq_iff_eq, bne_iff_ne, Bool.not_eq_true', Bool.not_eq_false', Bool.not_eq_true, Bool.not_eq_false, beq_eq_false_iff_ne, ne_eq, bne_eq_false_iff_eq, Bool.and_eq_true, Bool.or_eq_true, Bool.not_not, Bool.and_eq_false_iff, Bool.or_eq_false_iff, Int.not_lt, Int.not_le] at hc2')
        have hal2 : acc.length ≠ 100 := by omega
        have hov1 : (oneF (s.data.toList.drop (a + (spanN blankB (s.extract a s.size))))).2.2 = 5 → RangeVar G := fun h5 => hov (by rw [← hc, cut_err (n := n) (a := a) hne hal2 (by rw [hdw, h5]; decide), hdw]; exact h5)
        have hov2 : (oneF (s.extract (a + (spanN blankB (s.extract a s.size))) s.size).data.toList).2.2 = 5 → RangeVar G := by rw [het]; exact hov1
        have hov3 := one_vp hm (s.extract (a + (spanN blankB (s.extract a s.size))) s.size) (by omega) (by omega) hov2
        rw [het] at hov3
        refine CD.skip ?_
        refine CD.seq ?_
        refine CD.region ?_
        refine OD.still (wants_plain rfl) rfl (still_mv rfl ot) ?_
        refine OD.still (wants_plain rfl) rfl (still_mv rfl ot) ?_
        refine OD.still (wants_plain rfl) rfl (still_rs (l := (a + (spanN blankB (s.extract a s.size)))) rfl ot ⟨_, ot⟩ trivial (by first | exact sl_str (fun h => by cases h) (fun _ => rfl) Tryd.runUnderlying9 (by omega) (by omega))) ?_
        refine OD.callP (wants_plain rfl) rfl rfl rfl Tryd.call17 (hov3) ⟨ot, trivial⟩ ?_
        refine OD.still (wants_plain rfl) rfl (still_mv rfl ot) ?_
        refine OD.still (wants_plain rfl) rfl (still_extract rfl ot rfl) ?_
        refine OD.still (wants_plain rfl) rfl (still_extract rfl ot rfl) ?_
        refine OD.still (wants_plain rfl) rfl (still_extract rfl ot rfl) ?_
        refine OD.alloc (ds := [_, _, _]) (wants_plain rfl) rfl rfl Tryd.zeroValue30 rfl (fun b7 => ?_)
        refine OD.store (k := 0) (cs' := [_, _, _]) (wants_plain rfl) rfl rfl ot rfl rfl ot rfl rfl Tryd.sizeOf30 rfl rfl rfl ?_
        refine OD.still (wants_plain rfl) rfl (still_as rfl ot) ?_
        refine OD.still (wants_plain rfl) rfl (still_as rfl ot) ?_
        refine OD.wk (Wk.as_ (n := 47) (l' := [(0, _), (5, _), (6, _), (7, _), (8, _), (9, _)]) (S' := (⟨b7, 30, 3, [_, _, _]⟩ :: Sl)) rfl rfl ⟨lk, lk, lk, lk, lk, lk, trivial⟩) ?_
        refine OD.nil ?_
        refine CD.seq ?_
        refine CD.seq ?_
        refine CD.region ?_
        refine OD.still (wants_plain rfl) rfl (still_mv rfl ot) ?_
        refine OD.still (wants_plain rfl) rfl (still_bin rfl ot opd_const bin_neq) ?_
        refine OD.wk (Wk.as_ (n := 47) (l' := [(0, _), (5, _), (6, _), (7, _), (8, _), (9, _), (37, _)]) (S' := (⟨b7, 30, 3, [_, _, _]⟩ :: Sl)) rfl rfl ⟨lk, lk, lk, lk, lk, lk, lk, trivial⟩) ?_
        refine OD.nil ?_
        refine CD.cond ot (fun hc3 => ?_) (fun hc3 => ?_)
        · have hc3' := hc3
          (try simp only [decide_eq_true_eq, decide_eq_false_iff_not, beq_iff_eq, bne_iff_ne, Bool.not_eq_true', Bool.not_eq_false', Bool.not_eq_true, Bool.not_eq_false, beq_eq_false_iff_ne, ne_eq, bne_eq_false_iff_eq, Bool.and_eq_true, Bool.or_eq_true, Bool.not_not, Bool.and_eq_false_iff, Bool.or_eq_false_iff, Int.not_lt, Int.not_le] at hc3')
          have he0 : (oneF (s.data.toList.drop (a + (spanN blankB (s.extract a s.size))))).2.2 ≠ 0 := by simpa using hc3
          have hce := cut_err (n := n) (a := a) hne hal2 (by rw [hdw]; exact he0)
          rw [hkk, hdw, hc] at hce
          refine CD.seq ?_
          refine CD.region ?_
          refine OD.still (wants_plain rfl) rfl (still_mv rfl ot) ?_
          refine OD.still (wants_plain rfl) rfl (still_mv rfl ot) ?_
          refine OD.still (wants_plain rfl) rfl (still_as rfl opd_const) ?_
          refine OD.still (wants_plain rfl) rfl (still_as rfl ot) ?_
          refine OD.still (wants_plain rfl) rfl (still_as rfl ot) ?_
          refine OD.wk (Wk.as_ (n := 47) (l' := [(2, _), (3, _), (4, _)]) (S' := (⟨b7, 30, 3, [_, _, _]⟩ :: Sl)) rfl rfl ⟨lk, lk, lk, trivial⟩) ?_
          refine OD.nil ?_
          refine CD.wk (Wk.giveNil (t := 2) (sz := 3) lk) ?_
          refine CD.ret ?_
          refine ⟨.inr rfl, _, [], List.nil_sublist _, ret_three Tryd.results10 (res_tmp (Nat.le_of_ble_eq_true rfl) lk) (res_tmp (Nat.le_of_ble_eq_true rfl) lk) (res_tmp (Nat.le_of_ble_eq_true rfl) lk), ?_⟩
          first | (rw [hbig]; exact ⟨rfl, rfl⟩) | (rw [hcf, hce]; exact ⟨rfl, rfl⟩)
        · have hc3' := hc3
          (try simp only [decide_eq_true_eq, decide_eq_false_iff_not, beq_iff_eq, bne_iff_ne, Bool.not_eq_true', Bool.not_eq_false', Bool.not_eq_true, Bool.not_eq_false, beq_eq_false_iff_ne, ne_eq, bne_eq_false_iff_eq, Bool.and_eq_true, Bool.or_eq_true, Bool.not_not, Bool.and_eq_false_iff, Bool.or_eq_false_iff, Int.not_lt, Int.not_le] at hc3')
          have he0 : (oneF (s.data.toList.drop (a + (spanN blankB (s.extract a s.size))))).2.2 = 0 := by simpa using hc3
          have hnx := cut_next (n := n) (a := a) hne hal2 (by rw [hdw]; exact he0)
          have hpos := one_pos hne (by rw [hdw]; exact he0)
          rw [hdw] at hpos
          rw [List.length_drop, str_len] at hpos
          rw [hkk, hdw, List.drop_drop] at hnx
          refine CD.skip ?_
          refine CD.seq ?_
          refine CD.region ?_
          refine OD.still (wants_plain rfl) rfl (still_mv rfl ot) ?_
          refine OD.still (wants_plain rfl) rfl (still_r1 (mk := Op.load 30) rfl ot (by first | exact ld_blks (k := 0) (ds := [_, _, _]) rfl rfl Tryd.isAgg30 Tryd.sizeOf30 rfl rfl | exact ld_is (ds := [_, _, _]) Tryd.isAgg30 Tryd.sizeOf30 rfl rfl)) ?_
          refine OD.bldS (pl := [(0, _)]) (zvs := [.int .i64 0, .string ⟨#[]⟩, .int .i64 0]) (ds := [_, _, _]) (wants_plain rfl) rfl rfl Tryd.zeroValue30 Tryd.runUnderlying25 Tryd.sizeOf30 rfl rfl (by kernel_rfl) ⟨rfl, ot, trivial⟩ rfl rfl (fun b42 => ?_)
          refine OD.give (k := 0) (t := 42) (sz := 3) (m := 1) rfl lk rfl rfl rfl (Nat.le_refl _) (by decide) ?_
          refine OD.appendG (ls := (acc)) (new := [(oneF (s.data.toList.drop (a + (spanN blankB (s.extract a s.size))))).1]) (Sq := Sl) cT_len cT_one (wants_plain rfl) rfl rfl Tryd.underlying25 info30_Lx2 rfl (by decide) ot hol (perm_r11 (A := [_])) ot (by simp) (by simp [maxLen]; omega) (by simp; omega) (fun b43 cp43 h143 h243 => ?_)
          refine OD.perm (perm_q11 (S1 := [⟨b43, 30, cp43 * 3, List.flatMap cT ((acc) ++ [(oneF (s.data.toList.drop (a + (spanN blankB (s.extract a s.size))))).1])⟩]) (A := [_])) ?_
          refine OD.still (wants_plain rfl) rfl (still_as rfl ot) ?_
          refine OD.wk (Wk.as_ (n := 47) (l' := [(0, _), (5, _), (6, _), (8, _)]) (S' := (⟨b7, 30, 3, [_, _, _]⟩ :: [⟨b43, 30, cp43 * 3, List.flatMap cT ((acc) ++ [(oneF (s.data.toList.drop (a + (spanN blankB (s.extract a s.size))))).1])⟩])) rfl rfl ⟨lk, lk, lk, lk, trivial⟩) ?_
          refine OD.nil ?_
          refine CD.region ?_
          refine OD.still (wants_plain rfl) rfl (still_mv rfl ot) ?_
          refine OD.still (wants_plain rfl) rfl (still_mv rfl ot) ?_
          refine OD.still (wants_plain rfl) rfl (still_bin (r := .int .i64 ((a + (spanN blankB (s.extract a s.size)) + (oneF (s.data.toList.drop (a + (spanN blankB (s.extract a s.size))))).2.1 : Nat) : Int)) rfl ot ot (bin_add (by show IntKind.i64.wrap ((a : Int) + ((spanN blankB (s.extract a s.size)) : Nat) + ((oneF (s.data.toList.drop (a + (spanN blankB (s.extract a s.size))))).2.1 : Nat)) = (a : Int) + ((spanN blankB (s.extract a s.size)) : Nat) + ((oneF (s.data.toList.drop (a + (spanN blankB (s.extract a s.size))))).2.1 : Nat); exact wrap_i64 (by omega) (by omega)))) ?_
          refine OD.still (wants_plain rfl) rfl (still_as rfl ot) ?_
          refine OD.wk (Wk.as_ (n := 47) (l' := [(0, _), (5, _), (6, _)]) (S' := (⟨b7, 30, 3, [_, _, _]⟩ :: [⟨b43, 30, cp43 * 3, List.flatMap cT ((acc) ++ [(oneF (s.data.toList.drop (a + (spanN blankB (s.extract a s.size))))).1])⟩])) rfl rfl ⟨lk, lk, lk, trivial⟩) ?_
          refine OD.nil ?_
          refine ⟨(n, (a + (spanN blankB (s.extract a s.size)) + (oneF (s.data.toList.drop (a + (spanN blankB (s.extract a s.size))))).2.1), (acc ++ [(oneF (s.data.toList.drop (a + (spanN blankB (s.extract a s.size))))).1]), (some ⟨b43, 0, none⟩), cp43, [⟨b43, 30, cp43 * 3, List.flatMap cT ((acc) ++ [(oneF (s.data.toList.drop (a + (spanN blankB (s.extract a s.size))))).1])⟩]), ⟨47, [(0, .v (.string s)), (5, .v (.slice ((some ⟨b43, 0, none⟩)) (((acc ++ [(oneF (s.data.toList.drop (a + (spanN blankB (s.extract a s.size))))).1]))).length cp43)), (6, .v (.int .i64 (((a + (spanN blankB (s.extract a s.size)) + (oneF (s.data.toList.drop (a + (spanN blankB (s.extract a s.size))))).2.1)) : Nat)))], (([⟨b43, 30, cp43 * 3, List.flatMap cT ((acc) ++ [(oneF (s.data.toList.drop (a + (spanN blankB (s.extract a s.size))))).1])⟩]))⟩, ?_, Wk.asS (n := 47) rfl (by repeat (first | exact List.Sublist.refl _ | apply List.Sublist.cons_cons | apply List.Sublist.cons)) ⟨(by (repeat (first | exact look_hit | (apply look_at; focus (first | rfl | (simp; done) | (congr 2; omega) | (apply row_eq; simp; done))) | (apply look_miss; focus rfl))); done), (by (repeat (first | exact look_hit | (apply look_at; focus (first | rfl | (simp; done) | (congr 2; omega) | (apply row_eq; simp; done))) | (apply look_miss; focus rfl))); done), (by (repeat (first | exact look_hit | (apply look_at; focus (first | rfl | (simp; done) | (congr 2; omega) | (apply row_eq; simp; done))) | (apply look_miss; focus rfl))); done), trivial⟩, (by omega), (by omega), (hnx.symm.trans hc), (by simp; omega), (OwnL.cast (ownL_row h143 h243) (by first | rfl | simp)), rfl⟩
          first | omega | (simp only []; omega)

end Go.Proofs.YtdlcfkkkjklanaaDoor.Lx

namespace Go.Proofs.YtdlcfkkkjklanaaDoor.Lx
open Go.RowKit V Go.Proofs.YtdlcfkkkjklanaaDoor.Nm Go.Proofs.YtdlcfkkkjklanaaDoor.Pk
set_option linter.unusedVariables false
set_option linter.unusedSimpArgs false

/-- Nothing, or a byte that is not so. -/
def Ends (p : UInt8 → Bool) (r : List UInt8) : Prop := ∀ c r', r = c :: r' → p c = false
theorem tw_ends {p : UInt8 → Bool} {u r : List UInt8} (hu : ∀ c ∈ u, p c = true) (hr : Ends p r) : (u ++ r).takeWhile p = u := by
  rw [List.takeWhile_append_of_pos hu]
  cases r with
  | nil => simp
  | cons c r' => rw [List.takeWhile_cons, hr c r' rfl]; simp
theorem dw_ends {p : UInt8 → Bool} {u r : List UInt8} (hu : ∀ c ∈ u, p c = true) (hr : Ends p r) : (u ++ r).dropWhile p = r := by
  have h1 := List.takeWhile_append_dropWhile (p := p) (l := u ++ r)
  rw [tw_ends hu hr] at h1
  exact List.append_cancel_left h1
theorem one_word_l {u r : List UInt8} (h0 : letterB (u.getD 0 0) = true) (hn : u ≠ []) (hu : ∀ c ∈ u, wordB c = true) (hr : Ends wordB r) : oneF (u ++ r) = (⟨1, ⟨u.toArray⟩, 0⟩, u.length, 0) := by
  have hh : (u ++ r).getD 0 0 = u.getD 0 0 := by cases u with | nil => exact absurd rfl hn | cons a t => rfl
  unfold oneF
  rw [hh, if_pos h0, tw_ends hu hr]
theorem digit_letter {c : UInt8} (h : digitB c = true) : letterB c = false := by
  unfold digitB at h; unfold letterB
  simp only [decide_eq_true_eq, decide_eq_false_iff_not] at *
  omega
theorem one_num_l {d r : List UInt8} {v : Int} (hn : d ≠ []) (hd : ∀ c ∈ d, digitB c = true) (hr : Ends wordB r) (hv : Lib.atoiAll d = .ok v) : oneF (d ++ r) = (⟨2, ⟨#[]⟩, v⟩, d.length, 0) := by
  have hr1 : Ends digitB r := fun c r' e => by have := hr c r' e; unfold wordB at this; simp at this; exact this.2
  have h0 : digitB ((d ++ r).getD 0 0) = true := by cases d with | nil => exact absurd rfl hn | cons a t => exact hd a List.mem_cons_self
  have ha : afterL (d ++ r) = false := by
    unfold afterL
    rw [dw_ends hd hr1]
    cases r with
    | nil => rfl
    | cons c r' => have := hr c r' rfl; unfold wordB at this; simp at this; exact this.1
  unfold oneF
  rw [if_neg (by rw [digit_letter h0]; simp), if_pos h0, if_neg (by rw [ha]; simp)]
  unfold numL
  rw [tw_ends hd hr1, hv]
theorem one_form_l {d r : List UInt8} {c : UInt8} (hn : d ≠ []) (hd : ∀ c ∈ d, digitB c = true) (hc : letterB c = true) : oneF (d ++ c :: r) = (noTk, 0, 6) := by
  have hcd : digitB c = false := by cases h : digitB c with | false => rfl | true => rw [digit_letter h] at hc; cases hc
  have h0 : digitB ((d ++ c :: r).getD 0 0) = true := by cases d with | nil => exact absurd rfl hn | cons a t => exact hd a List.mem_cons_self
  have ha : afterL (d ++ c :: r) = true := by
    unfold afterL
    rw [dw_ends hd (fun c' r' e => by cases e; exact hcd)]
    exact hc
  unfold oneF
  rw [if_neg (by rw [digit_letter h0]; simp), if_pos h0, if_pos ha]
/-- Marks of one byte that begin no other one. -/
def soloB : List UInt8 := [40, 41, 44, 42, 43, 45, 61]
theorem one_solo {c : UInt8} {r : List UInt8} (h : c ∈ soloB) : oneF (c :: r) = (⟨4, ⟨#[c]⟩, 0⟩, 1, 0) := by
  have h1 : letterB c = false := by revert c; decide
  have h2 : digitB c = false := by revert c; decide
  have h3 : c ≠ 39 := by rintro rfl; revert h; decide
  have h4 : markL (c :: r) = (⟨4, ⟨#[c]⟩, 0⟩, 1, 0) := by
    simp only [soloB, List.mem_cons, List.not_mem_nil, or_false] at h
    rcases h with rfl | rfl | rfl | rfl | rfl | rfl | rfl <;> simp [markL, marksB, List.isPrefixOf]
  unfold oneF
  have e : (c :: r).getD 0 0 = c := rfl
  rw [e, if_neg (by rw [h1]; simp), if_neg (by rw [h2]; simp), if_neg h3, h4]
/-- One token more is cut. -/
theorem cut_more {n a k : Nat} {l : List UInt8} {acc : List Tk} {t : Tk} {c : UInt8} {r : List UInt8} (hl : l = c :: r) (hc : blankB c = false) (h1 : acc.length ≠ 100) (ho : oneF l = (t, k, 0)) : cutG (n + 1) l a acc = cutG n (l.drop k) (a + k) (acc ++ [t]) := by
  have hd : l.dropWhile blankB = l := by rw [hl, List.dropWhile_cons, hc]; simp
  have ht : (l.takeWhile blankB).length = 0 := by rw [hl, List.takeWhile_cons, hc]; simp
  have := cut_next (n := n) (a := a) (l := l) (acc := acc) (by rw [hd, hl]; simp) h1 (by rw [hd, ho])
  rw [this, hd, ho, ht, Nat.add_zero]
theorem cut_stop {n a : Nat} {acc : List Tk} : cutG (n + 1) [] a acc = (acc, 0, 0) := cut_end rfl
theorem cut_bad {n a k : Nat} {l : List UInt8} {acc : List Tk} {t : Tk} {e : Int} {c : UInt8} {r : List UInt8} (hl : l = c :: r) (hc : blankB c = false) (h1 : acc.length ≠ 100) (ho : oneF l = (t, k, e)) (he : e ≠ 0) : cutG (n + 1) l a acc = ([], a, e) := by
  have hd : l.dropWhile blankB = l := by rw [hl, List.dropWhile_cons, hc]; simp
  have ht : (l.takeWhile blankB).length = 0 := by rw [hl, List.takeWhile_cons, hc]; simp
  have := cut_err (n := n) (a := a) (l := l) (acc := acc) (by rw [hd, hl]; simp) h1 (by rw [hd, ho]; exact he)
  rw [this, hd, ho, ht, Nat.add_zero]
theorem letter_blank {c : UInt8} (h : letterB c = true) : blankB c = false := by
  unfold letterB at h; unfold blankB
  simp only [decide_eq_true_eq, decide_eq_false_iff_not] at *
  omega
theorem digit_blank {c : UInt8} (h : digitB c = true) : blankB c = false := by
  unfold digitB at h; unfold blankB
  simp only [decide_eq_true_eq, decide_eq_false_iff_not] at *
  omega
theorem solo_word {c : UInt8} (h : c ∈ soloB) : wordB c = false := by revert c; decide
theorem ends_solo {c : UInt8} {r : List UInt8} (h : c ∈ soloB) : Ends wordB (c :: r) := fun c' r' e => by cases e; exact solo_word h
/-! ### LexWords -/
def digB (i : Nat) : UInt8 := UInt8.ofNat (48 + i % 10)
def digR : Nat → Nat → List UInt8 → List UInt8
  | 0, _, d => d
  | n + 1, i, d => if i = 0 ∧ d ≠ [] then d else digR n (i / 10) (digB i :: d)
def digK (k : Nat) : List UInt8 := digR 4 k []
theorem digR_stop {n i : Nat} {d : List UInt8} (h : i = 0) (h1 : d ≠ []) : digR (n + 1) i d = d := by rw [digR, if_pos ⟨h, h1⟩]
theorem digR_step {n i : Nat} {d : List UInt8} (h : i ≠ 0 ∨ d = []) : digR (n + 1) i d = digR n (i / 10) (digB i :: d) := by
  rw [digR, if_neg]
  rintro ⟨h1, h2⟩
  rcases h with h | h
  · exact h h1
  · exact h2 h
theorem dig_nat (i : Nat) : (digB i).toNat = 48 + i % 10 := by
  have : i % 10 < 10 := Nat.mod_lt _ (by decide)
  unfold digB
  rw [UInt8.toNat_ofNat']
  exact Nat.mod_eq_of_lt (by omega)
def numOk (k : Nat) : Bool := (digK k).all digitB && decide (digK k ≠ []) && decide ((digK k).length ≤ 3) && (match Lib.atoiAll (digK k) with | .ok v => decide (v = (k : Int)) | _ => false)
theorem num_all : ∀ k < 1000, numOk k = true := by decide +kernel
theorem num_facts {k : Nat} (h : k < 1000) : (∀ c ∈ digK k, digitB c = true) ∧ digK k ≠ [] ∧ (digK k).length ≤ 3 ∧ Lib.atoiAll (digK k) = .ok (k : Int) := by
  have := num_all k h
  unfold numOk at this
  simp only [Bool.and_eq_true, decide_eq_true_eq] at this
  obtain ⟨⟨⟨h1, h2⟩, h3⟩, h4⟩ := this
  refine ⟨fun c hc => List.all_eq_true.1 h1 c hc, h2, h3, ?_⟩
  rcases ha : Lib.atoiAll (digK k) with v | _ | _
  · rw [ha] at h4; simp at h4; rw [h4]
  · rw [ha] at h4; cases h4
  · rw [ha] at h4; cases h4
theorem wb_letter (c : UInt8) : letterB (wb c) = true := by
  have := wb_nat c
  have h2 : c.toNat % 26 < 26 := Nat.mod_lt _ (by decide)
  unfold letterB
  rw [this]
  simp only [decide_eq_true_eq]
  omega
theorem word_letters (s : ByteArray) : (∀ c ∈ wordL s, letterB c = true) ∧ wordL s ≠ [] ∧ (wordL s).length ≤ 6 := by
  unfold wordL
  split
  · exact ⟨by decide, by decide, by decide⟩
  · rename_i h
    refine ⟨fun c hc => ?_, fun e => ?_, ?_⟩
    · obtain ⟨x, _, rfl⟩ := List.mem_map.1 hc; exact wb_letter x
    · have e2 := congrArg List.length e
      rw [List.length_map, List.length_take, str_len] at e2
      simp only [List.length_nil] at e2
      omega
    · rw [List.length_map, List.length_take]; omega
theorem words_cut (s : ByteArray) {k : Nat} (hk : k < 1000) : cutF (wordL s ++ [95] ++ digK k ++ [40] ++ digK k ++ [41]) = ([⟨1, ⟨(wordL s ++ [95] ++ digK k).toArray⟩, 0⟩, ⟨4, ⟨#[40]⟩, 0⟩, ⟨2, ⟨#[]⟩, (k : Int)⟩, ⟨4, ⟨#[41]⟩, 0⟩], 0, 0) := by
  obtain ⟨d1, d2, d3, d4⟩ := num_facts hk
  obtain ⟨w1, w2, w3⟩ := word_letters s
  generalize digK k = d at *
  generalize wordL s = w at *
  have hu : ∀ c ∈ w ++ [95] ++ d, wordB c = true := fun c hc => by
    rcases List.mem_append.1 hc with hc | hc
    · rcases List.mem_append.1 hc with hc | hc
      · unfold wordB; rw [w1 c hc]; rfl
      · rw [List.mem_singleton] at hc; subst hc; decide
    · unfold wordB; rw [d1 c hc]; simp
  have hun : w ++ [95] ++ d ≠ [] := by simp
  have hu0 : letterB ((w ++ [95] ++ d).getD 0 0) = true := by
    cases w with
    | nil => exact absurd rfl w2
    | cons a t => exact w1 a List.mem_cons_self
  have e : w ++ [95] ++ d ++ [40] ++ d ++ [41] = (w ++ [95] ++ d) ++ (40 :: (d ++ (41 :: []))) := by simp
  have hlen : (w ++ [95] ++ d ++ [40] ++ d ++ [41]).length = w.length + 1 + d.length + 1 + d.length + 1 := by simp; omega
  unfold cutF
  rw [if_neg (by rw [hlen]; omega)]
  obtain ⟨n, hn⟩ : ∃ n, (w ++ [95] ++ d ++ [40] ++ d ++ [41]).length + 1 = n + 1 + 1 + 1 + 1 + 1 := ⟨w.length + d.length + d.length - 1, by rw [hlen]; have := List.length_pos_iff.2 w2; have := List.length_pos_iff.2 d2; omega⟩
  rw [hn, e]
  obtain ⟨a, t, hat⟩ : ∃ a t, w ++ [95] ++ d = a :: t := by cases h : w ++ [95] ++ d with | nil => exact absurd h hun | cons a t => exact ⟨a, t, rfl⟩
  obtain ⟨b, u, hbu⟩ : ∃ b u, d = b :: u := by cases h : d with | nil => exact absurd h d2 | cons a t => exact ⟨a, t, rfl⟩
  have ha0 : letterB a = true := by rw [hat] at hu0; exact hu0
  have hb0 : digitB b = true := d1 b (by rw [hbu]; exact List.mem_cons_self)
  rw [cut_more (c := a) (r := t ++ (40 :: (d ++ (41 :: [])))) (by rw [hat]; rfl) (letter_blank ha0) (by simp) (one_word_l hu0 hun hu (ends_solo (by decide)))]
  rw [List.drop_left, cut_more rfl (by decide) (by simp) (one_solo (by decide))]
  show cutG _ (d ++ (41 :: [])) _ _ = _
  rw [cut_more (c := b) (r := u ++ (41 :: [])) (by rw [hbu]; rfl) (digit_blank hb0) (by simp) (one_num_l d2 d1 (ends_solo (by decide)) d4)]
  rw [List.drop_left, cut_more rfl (by decide) (by simp) (one_solo (by decide))]
  show cutG _ [] _ _ = _
  rw [cut_stop]
  rfl
theorem words_bad (s : ByteArray) {k : Nat} (hk : k < 1000) : cutF (digK k ++ wordL s) = ([], 0, 6) := by
  obtain ⟨d1, d2, d3, d4⟩ := num_facts hk
  obtain ⟨w1, w2, w3⟩ := word_letters s
  generalize digK k = d at *
  generalize wordL s = w at *
  obtain ⟨a, t, hat⟩ : ∃ a t, w = a :: t := by cases h : w with | nil => exact absurd h w2 | cons a t => exact ⟨a, t, rfl⟩
  obtain ⟨b, u, hbu⟩ : ∃ b u, d = b :: u := by cases h : d with | nil => exact absurd h d2 | cons a t => exact ⟨a, t, rfl⟩
  have hb0 : digitB b = true := d1 b (by rw [hbu]; exact List.mem_cons_self)
  unfold cutF
  rw [if_neg (by rw [List.length_append]; omega)]
  exact cut_bad (c := b) (r := u ++ w) (by rw [hbu]; rfl) (digit_blank hb0) (by decide) (by rw [hat]; exact one_form_l d2 d1 (w1 a (by rw [hat]; exact List.mem_cons_self))) (by decide)
theorem cat_cons (x : UInt8) (d : List UInt8) : (⟨[x].toArray⟩ : ByteArray) ++ ⟨d.toArray⟩ = ⟨(x :: d).toArray⟩ := str_ext (by rw [Go.Joins.data_append]; rfl)
variable {G : List (Nat × List Value)}

theorem eqs30 (x y : Tk) : ∀ w, (Op.equalIn 10000 30 (.agg [.int .i64 x.k, .string x.s, .int .i64 x.n].toArray) (.agg [.int .i64 y.k, .string y.s, .int .i64 y.n].toArray)).run Tryd.prog w = .ok (x.k == y.k && (x.s.toList == y.s.toList && x.n == y.n)) w := fun w => by
  have hS : Tryd.prog.underlying 30 = some (.struct (Tryd.prog.fieldsOf 30)) := by kernel_rfl
  have hp : Tryd.prog.stoodInHeld 30 = false := by kernel_rfl
  rw [show (10000 : Nat) = 9999 + 1 from rfl, run_equalIn_agg w 9999 30 _ _ hS hp]
  have u := Tryd.underlying30
  have u3 := Tryd.underlying3
  have u9 := Tryd.underlying9
  have a3 := Tryd.isAgg3
  have a9 := Tryd.isAgg9
  have z3 := Tryd.sizeOf3
  have z9 := Tryd.sizeOf9
  simp only [Program.fieldsOf, u]
  go_simp
  by_cases h1 : x.k = y.k <;> by_cases h2 : x.s.toList = y.s.toList <;> by_cases h3 : x.n = y.n <;> simp [h1, h2, h3]

theorem places30_Lx3 : ∀ w, ((#[{ name := "Kind", type := 3, offset := 0, embedded := false, tag := "", pkgPath := "", byteOffset := 0 }, { name := "Text", type := 9, offset := 1, embedded := false, tag := "", pkgPath := "", byteOffset := 8 }, { name := "Int", type := 3, offset := 2, embedded := false, tag := "", pkgPath := "", byteOffset := 24 }] : Array Field).mapM fun f => do pure (f.offset, ← sizeOf f.type) : Sem (Array (Nat × Nat))).run Tryd.prog w = .ok #[(0, 1), (1, 1), (2, 1)] w := fun w => by simp [Tryd.sizeOf3, Tryd.sizeOf9]

theorem cat_size (a b : ByteArray) : (a ++ b).size = a.size + b.size := by rw [← str_len, Go.Joins.data_append, List.length_append, str_len, str_len]
theorem dig_wrap (i : Nat) : IntKind.u8.wrap (48 + ((i % 10 : Nat) : Int)) = ((digB i).toNat : Int) := by
  rw [dig_nat]
  have : i % 10 < 10 := Nat.mod_lt _ (by decide)
  show (48 + ((i % 10 : Nat) : Int)) % 256 = _
  omega

set_option maxHeartbeats 4000000 in
set_option maxRecDepth 100000 in
theorem words_vp (hm : (0, marksC) ∈ G) (s : ByteArray) (hs : s.size ≤ maxLen) (n : Int) (h1 : -9223372036854775808 ≤ n) (h2 : n ≤ 9223372036854775807) : VP Tryd.prog G 3 [.v (.string s), .v (.int .i64 n)] (.v (.bool true)) := by
  refine VC.body Tryd.func3 rfl Tryd.ntmps3 (Nat.le_of_ble_eq_true rfl) fun X0 w0 S00 => ?_
  have hmx : maxLen = 9223372036854775807 := rfl
  have hpb := pickedF_bd n (by decide : (1 : Int) ≤ 1000)
  obtain ⟨k, hk⟩ := Int.eq_ofNat_of_zero_le hpb.1
  have hkk : k < 1000 := by omega
  have hpv := picked_vp G n 1000 h1 h2 (by decide)
  rw [hk] at hpv
  obtain ⟨w1, w2, w3⟩ := word_letters s
  obtain ⟨d1, d2, d3, d4⟩ := num_facts hkk
  have hws : (wordF s).size ≤ 6 := by rw [← str_len]; exact w3
  have hds : (⟨(digK k).toArray⟩ : ByteArray).size ≤ 3 := by rw [← str_len]; exact d3
  have e1 : ((wordF s) ++ ⟨#[95]⟩ ++ (⟨(digK k).toArray⟩ : ByteArray) ++ ⟨#[40]⟩ ++ (⟨(digK k).toArray⟩ : ByteArray) ++ ⟨#[41]⟩).data.toList = wordL s ++ [95] ++ digK k ++ [40] ++ digK k ++ [41] := by simp only [Go.Joins.data_append]; rfl
  have e2 : ((⟨(digK k).toArray⟩ : ByteArray) ++ (wordF s)).data.toList = digK k ++ wordL s := by simp only [Go.Joins.data_append]; rfl
  have c1 := words_cut s hkk
  have c2 := words_bad s hkk
  have hz1 : ((wordF s) ++ ⟨#[95]⟩ ++ (⟨(digK k).toArray⟩ : ByteArray) ++ ⟨#[40]⟩ ++ (⟨(digK k).toArray⟩ : ByteArray) ++ ⟨#[41]⟩).size ≤ 20 := by rw [← str_len, e1]; simp; omega
  have hz2 : ((⟨(digK k).toArray⟩ : ByteArray) ++ (wordF s)).size ≤ 20 := by rw [← str_len, e2]; simp; omega
  have v1 := cut_vp hm ((wordF s) ++ ⟨#[95]⟩ ++ (⟨(digK k).toArray⟩ : ByteArray) ++ ⟨#[40]⟩ ++ (⟨(digK k).toArray⟩ : ByteArray) ++ ⟨#[41]⟩) (by omega) (fun h => by rw [e1, c1] at h; simp at h)
  have v2 := cut_vp hm ((⟨(digK k).toArray⟩ : ByteArray) ++ (wordF s)) (by omega) (fun h => by rw [e2, c2] at h; simp at h)
  rw [e1, c1] at v1
  rw [e2, c2] at v2
  unfold cutD at v1 v2
  have e3 : (wordF s) ++ ⟨#[95]⟩ ++ (⟨(digK k).toArray⟩ : ByteArray) = ⟨(wordL s ++ [95] ++ digK k).toArray⟩ := str_ext (by simp only [Go.Joins.data_append]; rfl)
  refine CD.seq ?_
  refine CD.region ?_
  refine OD.still (wants_plain rfl) rfl (still_as rfl opd_const) ?_
  refine OD.wk (Wk.as_ (n := 91) (l' := [(0, _), (1, _)]) (S' := []) rfl rfl ⟨lk, lk, trivial⟩) ?_
  refine OD.nil ?_
  refine CD.seq ?_
  refine CD.region ?_
  refine OD.still (wants_plain rfl) rfl (still_mv rfl ot) ?_
  refine OD.callP (wants_plain rfl) rfl rfl rfl Tryd.call8 (word_vp s hs) ⟨ot, trivial⟩ ?_
  refine OD.still (wants_plain rfl) rfl (still_as rfl ot) ?_
  refine OD.wk (Wk.as_ (n := 91) (l' := [(1, _), (5, _)]) (S' := []) rfl rfl ⟨lk, lk, trivial⟩) ?_
  refine OD.nil ?_
  refine CD.seq ?_
  refine CD.region ?_
  refine OD.still (wants_plain rfl) rfl (still_mv rfl ot) ?_
  refine OD.callP (wants_plain rfl) rfl rfl rfl Tryd.call9 (hpv) ⟨ot, opd_const, trivial⟩ ?_
  refine OD.still (wants_plain rfl) rfl (still_as rfl ot) ?_
  refine OD.wk (Wk.as_ (n := 91) (l' := [(5, _), (6, _)]) (S' := []) rfl rfl ⟨lk, lk, trivial⟩) ?_
  refine OD.nil ?_
  refine CD.seq ?_
  refine CD.region ?_
  refine OD.still (wants_plain rfl) rfl (still_as rfl opd_const) ?_
  refine OD.wk (Wk.as_ (n := 91) (l' := [(5, _), (6, _), (7, _)]) (S' := []) rfl rfl ⟨lk, lk, lk, trivial⟩) ?_
  refine OD.nil ?_
  refine CD.seq ?_
  refine CD.seq ?_
  refine CD.region ?_
  refine OD.still (wants_plain rfl) rfl (still_mv rfl ot) ?_
  refine OD.still (wants_plain rfl) rfl (still_as rfl ot) ?_
  refine OD.wk (Wk.as_ (n := 91) (l' := [(5, _), (6, _), (7, _), (8, _)]) (S' := []) rfl rfl ⟨lk, lk, lk, lk, trivial⟩) ?_
  refine OD.nil ?_
  refine CD.block ?_
  refine CD.wk (Wk.asS (n := 91) (l' := [(5, .v (.string (wordF s))), (6, .v (.int .i64 (k : Nat))), (7, .v (.string ⟨(([])).toArray⟩)), (8, .v (.int .i64 (k : Nat)))]) (S' := []) rfl (by repeat (first | exact List.Sublist.refl _ | apply List.Sublist.cons)) ⟨(by (repeat (first | exact look_hit | (apply look_at; focus (first | rfl | (simp; done) | (congr 2; omega) | (refine vs ?_; exact str_ext rfl))) | (apply look_miss; focus rfl))); done), (by (repeat (first | exact look_hit | (apply look_at; focus (first | rfl | (simp; done) | (congr 2; omega) | (refine vs ?_; exact str_ext rfl))) | (apply look_miss; focus rfl))); done), (by (repeat (first | exact look_hit | (apply look_at; focus (first | rfl | (simp; done) | (congr 2; omega) | (refine vs ?_; exact str_ext rfl))) | (apply look_miss; focus rfl))); done), (by (repeat (first | exact look_hit | (apply look_at; focus (first | rfl | (simp; done) | (congr 2; omega) | (refine vs ?_; exact str_ext rfl))) | (apply look_miss; focus rfl))); done), trivial⟩) (CD.loop (fun (gh__ : Nat × Nat × List UInt8) y__ => match gh__ with | (m, i, d) => (i < 10 ^ m) ∧ (m ≤ 3) ∧ (m < 3 → d ≠ []) ∧ (digR (m + 1) i d = digK k) ∧ (d.length + m = 3) ∧ y__ = (⟨91, [(5, .v (.string (wordF s))), (6, .v (.int .i64 (k : Nat))), (7, .v (.string ⟨(d).toArray⟩)), (8, .v (.int .i64 (i : Nat)))], []⟩ : St)) (fun (gh__ : Nat × Nat × List UInt8) => match gh__ with | (m, i, d) => m) (3, k, []) ⟨(by omega), (by omega), (by omega), rfl, rfl, rfl⟩ ?_)
  rintro ⟨m, i, d⟩ _ ⟨him, hm3, hmd, hdg, hdl, rfl⟩
  refine CD.seq ?_
  refine CD.seq ?_
  refine CD.region ?_
  refine OD.still (wants_plain rfl) rfl (still_mv rfl ot) ?_
  refine OD.still (wants_plain rfl) rfl (still_bin rfl ot opd_const bin_gtr) ?_
  refine OD.still (wants_plain rfl) rfl (still_mv rfl ot) ?_
  refine OD.split (t := 22) lk (fun hg22 => ?_) (fun hg22 => ?_)
  · have hg22' := hg22; (try simp only [decide_eq_true_eq, decide_eq_false_iff_not, beq_iff_eq, bne_iff_ne, Bool.not_eq_true', Bool.not_eq_false', Bool.not_eq_true, Bool.not_eq_false, beq_eq_false_iff_ne, ne_eq, bne_eq_false_iff_eq, Bool.and_eq_true, Bool.or_eq_true, Bool.not_not] at hg22')
    refine OD.skip (wants_F rfl rfl rfl lk (by first | rfl | assumption)) rfl ?_
    refine OD.skip (wants_F rfl rfl rfl lk (by first | rfl | assumption)) rfl ?_
    refine OD.still (wants_plain rfl) rfl (still_pickT rfl ot (by first | rfl | assumption) opd_const) ?_
    refine OD.wk (Wk.as_ (n := 91) (l' := [(5, _), (6, _), (7, _), (8, _), (25, _)]) (S' := []) rfl rfl ⟨lk, lk, lk, lk, lk, trivial⟩) ?_
    refine OD.nil ?_
    refine CD.condT ot (by first | rfl | assumption) ?_
    have hst : i ≠ 0 ∨ d = [] := by (rcases Nat.eq_zero_or_pos i with h9 | h9; right; (rcases d with _ | ⟨x, d⟩; rfl; (subst h9; simp [str_list] at *)); left; omega)
    have hm0 : m ≠ 0 := by (rintro rfl; have h9 := hmd (by omega); have h8 : i < 1 := him; rcases hst with h | h; omega; exact h9 h)
    obtain ⟨m, rfl⟩ : ∃ q, m = q + 1 := ⟨m - 1, by omega⟩
    have hnx1 : i / 10 < 10 ^ m := by (rw [Nat.pow_succ] at him; omega)
    have hnx2 : digR (m + 1) (i / 10) (digB i :: d) = digK k := by rw [← hdg, digR_step hst]
    have hi10 : i % 10 < 10 := Nat.mod_lt _ (by decide)
    have hi3 : i < 1000 := Nat.lt_of_lt_of_le him (Nat.pow_le_pow_right (by decide) hm3)
    refine CD.skip ?_
    refine CD.seq ?_
    refine CD.block ?_
    refine CD.region ?_
    refine OD.still (wants_plain rfl) rfl (still_mv rfl ot) ?_
    refine OD.still (wants_plain rfl) rfl (still_bin (r := .int .i64 ((i % 10 : Nat) : Int)) rfl ot opd_const (bin_rem (b := 10) (by decide))) ?_
    refine OD.still (wants_plain rfl) rfl (still_bin rfl opd_const ot (bin_add (wrap_i64 (by omega) (by omega)))) ?_
    refine OD.still (wants_plain rfl) rfl (still_conv (r := .int .u8 ((digB i).toNat : Int)) rfl ot (conv_int Tryd.runUnderlying3 Tryd.runUnderlying5 (dig_wrap i))) ?_
    refine OD.bldS (pl := [(0, _)]) (zvs := [.int .u8 0]) (ds := [_]) (wants_plain rfl) rfl rfl Tryd.zeroValue5 Tryd.runUnderlying24 Tryd.sizeOf5 rfl rfl (by kernel_rfl) ⟨rfl, ot, trivial⟩ rfl rfl (fun b32 => ?_)
    refine OD.perm (perm_q11 (S1 := [⟨b32, 5, 1 * 1, List.flatMap cB ([digB i])⟩]) (A := [])) ?_
    refine OD.giveL (t := 32) (Sq := [⟨b32, 5, 1 * 1, List.flatMap cB ([digB i])⟩]) lk (ownL_row (g := cB) (sz := 1) (e := 5) (ls := [digB i]) (Nat.le_refl _) (show 1 ≤ maxLen by decide)) (fm_len cB_len _) (perm_r11 (A := [])) ?_
    first | refine OD.still (wants_plain rfl) rfl (still_ofBytes rfl ot Tryd.underlying24 Tryd.underlying5 Tryd.underlying9) ?_ | refine OD.still (wants_plain rfl) rfl (still_ofBytesF rfl ot Tryd.underlying24 Tryd.underlying5 Tryd.underlying9) ?_
    refine OD.still (wants_plain rfl) rfl (still_mv rfl ot) ?_
    refine OD.still (wants_plain rfl) rfl (still_bin (r := .string ⟨(digB i :: d).toArray⟩) rfl ot ot (by rw [← cat_cons]; exact bin_cat (by rw [← str_len, ← str_len]; show 1 + d.length ≤ _; omega))) ?_
    refine OD.still (wants_plain rfl) rfl (still_as rfl ot) ?_
    refine OD.wk (Wk.as_ (n := 91) (l' := [(5, _), (6, _), (7, _), (8, _)]) (S' := []) rfl rfl ⟨lk, lk, lk, lk, trivial⟩) ?_
    refine OD.nil ?_
    refine CD.region ?_
    refine OD.still (wants_plain rfl) rfl (still_mv rfl ot) ?_
    refine OD.still (wants_plain rfl) rfl (still_bin (r := .int .i64 ((i / 10 : Nat) : Int)) rfl ot opd_const (bin_quo (b := 10) (by decide) (by show IntKind.i64.wrap ((i / 10 : Nat) : Int) = _; exact wrap_i64 (by omega) (by omega)))) ?_
    refine OD.still (wants_plain rfl) rfl (still_as rfl ot) ?_
    refine OD.wk (Wk.as_ (n := 91) (l' := [(5, _), (6, _), (7, _), (8, _)]) (S' := []) rfl rfl ⟨lk, lk, lk, lk, trivial⟩) ?_
    refine OD.nil ?_
    refine ⟨(m, (i / 10), (digB i :: d)), ⟨91, [(5, .v (.string (wordF s))), (6, .v (.int .i64 (k : Nat))), (7, .v (.string ⟨(((digB i :: d))).toArray⟩)), (8, .v (.int .i64 (((i / 10)) : Nat)))], []⟩, ?_, Wk.asS (n := 91) rfl (by repeat (first | exact List.Sublist.refl _ | apply List.Sublist.cons)) ⟨(by (repeat (first | exact look_hit | (apply look_at; focus (first | rfl | (simp; done) | (congr 2; omega) | (refine vs ?_; exact str_ext rfl))) | (apply look_miss; focus rfl))); done), (by (repeat (first | exact look_hit | (apply look_at; focus (first | rfl | (simp; done) | (congr 2; omega) | (refine vs ?_; exact str_ext rfl))) | (apply look_miss; focus rfl))); done), (by (repeat (first | exact look_hit | (apply look_at; focus (first | rfl | (simp; done) | (congr 2; omega) | (refine vs ?_; exact str_ext rfl))) | (apply look_miss; focus rfl))); done), (by (repeat (first | exact look_hit | (apply look_at; focus (first | rfl | (simp; done) | (congr 2; omega) | (refine vs ?_; exact str_ext rfl))) | (apply look_miss; focus rfl))); done), trivial⟩, hnx1, (by omega), (fun _ => by simp), hnx2, (by simp; omega), rfl⟩
    exact Nat.lt_succ_self _
  · have hg22' := hg22; (try simp only [decide_eq_true_eq, decide_eq_false_iff_not, beq_iff_eq, bne_iff_ne, Bool.not_eq_true', Bool.not_eq_false', Bool.not_eq_true, Bool.not_eq_false, beq_eq_false_iff_ne, ne_eq, bne_eq_false_iff_eq, Bool.and_eq_true, Bool.or_eq_true, Bool.not_not] at hg22')
    refine OD.still (wants_T rfl rfl rfl lk (by first | rfl | assumption)) rfl (still_mv rfl ot) ?_
    refine OD.still (wants_T rfl rfl rfl lk (by first | rfl | assumption)) rfl (still_bin rfl ot opd_const bin_seql) ?_
    refine OD.still (wants_plain rfl) rfl (still_pickF rfl ot (by first | rfl | assumption) ot) ?_
    refine OD.wk (Wk.as_ (n := 91) (l' := [(5, _), (6, _), (7, _), (8, _), (25, _)]) (S' := []) rfl rfl ⟨lk, lk, lk, lk, lk, trivial⟩) ?_
    refine OD.nil ?_
    refine CD.cond ot (fun hc0 => ?_) (fun hc0 => ?_)
    · have hc0' := hc0
      (try simp only [decide_eq_true_eq, decide_eq_false_iff_not, beq_iff_eq, bne_iff_ne, Bool.not_eq_true', Bool.not_eq_false', Bool.not_eq_true, Bool.not_eq_false, beq_eq_false_iff_ne, ne_eq, bne_eq_false_iff_eq, Bool.and_eq_true, Bool.or_eq_true, Bool.not_not, Bool.and_eq_false_iff, Bool.or_eq_false_iff, Int.not_lt, Int.not_le] at hc0')
      have hst : i ≠ 0 ∨ d = [] := by (rcases Nat.eq_zero_or_pos i with h9 | h9; right; (rcases d with _ | ⟨x, d⟩; rfl; (subst h9; simp [str_list] at *)); left; omega)
      have hm0 : m ≠ 0 := by (rintro rfl; have h9 := hmd (by omega); have h8 : i < 1 := him; rcases hst with h | h; omega; exact h9 h)
      obtain ⟨m, rfl⟩ : ∃ q, m = q + 1 := ⟨m - 1, by omega⟩
      have hnx1 : i / 10 < 10 ^ m := by (rw [Nat.pow_succ] at him; omega)
      have hnx2 : digR (m + 1) (i / 10) (digB i :: d) = digK k := by rw [← hdg, digR_step hst]
      have hi10 : i % 10 < 10 := Nat.mod_lt _ (by decide)
      have hi3 : i < 1000 := Nat.lt_of_lt_of_le him (Nat.pow_le_pow_right (by decide) hm3)
      refine CD.skip ?_
      refine CD.seq ?_
      refine CD.block ?_
      refine CD.region ?_
      refine OD.still (wants_plain rfl) rfl (still_mv rfl ot) ?_
      refine OD.still (wants_plain rfl) rfl (still_bin (r := .int .i64 ((i % 10 : Nat) : Int)) rfl ot opd_const (bin_rem (b := 10) (by decide))) ?_
      refine OD.still (wants_plain rfl) rfl (still_bin rfl opd_const ot (bin_add (wrap_i64 (by omega) (by omega)))) ?_
      refine OD.still (wants_plain rfl) rfl (still_conv (r := .int .u8 ((digB i).toNat : Int)) rfl ot (conv_int Tryd.runUnderlying3 Tryd.runUnderlying5 (dig_wrap i))) ?_
      refine OD.bldS (pl := [(0, _)]) (zvs := [.int .u8 0]) (ds := [_]) (wants_plain rfl) rfl rfl Tryd.zeroValue5 Tryd.runUnderlying24 Tryd.sizeOf5 rfl rfl (by kernel_rfl) ⟨rfl, ot, trivial⟩ rfl rfl (fun b32 => ?_)
      refine OD.perm (perm_q11 (S1 := [⟨b32, 5, 1 * 1, List.flatMap cB ([digB i])⟩]) (A := [])) ?_
      refine OD.giveL (t := 32) (Sq := [⟨b32, 5, 1 * 1, List.flatMap cB ([digB i])⟩]) lk (ownL_row (g := cB) (sz := 1) (e := 5) (ls := [digB i]) (Nat.le_refl _) (show 1 ≤ maxLen by decide)) (fm_len cB_len _) (perm_r11 (A := [])) ?_
      first | refine OD.still (wants_plain rfl) rfl (still_ofBytes rfl ot Tryd.underlying24 Tryd.underlying5 Tryd.underlying9) ?_ | refine OD.still (wants_plain rfl) rfl (still_ofBytesF rfl ot Tryd.underlying24 Tryd.underlying5 Tryd.underlying9) ?_
      refine OD.still (wants_plain rfl) rfl (still_mv rfl ot) ?_
      refine OD.still (wants_plain rfl) rfl (still_bin (r := .string ⟨(digB i :: d).toArray⟩) rfl ot ot (by rw [← cat_cons]; exact bin_cat (by rw [← str_len, ← str_len]; show 1 + d.length ≤ _; omega))) ?_
      refine OD.still (wants_plain rfl) rfl (still_as rfl ot) ?_
      refine OD.wk (Wk.as_ (n := 91) (l' := [(5, _), (6, _), (7, _), (8, _)]) (S' := []) rfl rfl ⟨lk, lk, lk, lk, trivial⟩) ?_
      refine OD.nil ?_
      refine CD.region ?_
      refine OD.still (wants_plain rfl) rfl (still_mv rfl ot) ?_
      refine OD.still (wants_plain rfl) rfl (still_bin (r := .int .i64 ((i / 10 : Nat) : Int)) rfl ot opd_const (bin_quo (b := 10) (by decide) (by show IntKind.i64.wrap ((i / 10 : Nat) : Int) = _; exact wrap_i64 (by omega) (by omega)))) ?_
      refine OD.still (wants_plain rfl) rfl (still_as rfl ot) ?_
      refine OD.wk (Wk.as_ (n := 91) (l' := [(5, _), (6, _), (7, _), (8, _)]) (S' := []) rfl rfl ⟨lk, lk, lk, lk, trivial⟩) ?_
      refine OD.nil ?_
      refine ⟨(m, (i / 10), (digB i :: d)), ⟨91, [(5, .v (.string (wordF s))), (6, .v (.int .i64 (k : Nat))), (7, .v (.string ⟨(((digB i :: d))).toArray⟩)), (8, .v (.int .i64 (((i / 10)) : Nat)))], []⟩, ?_, Wk.asS (n := 91) rfl (by repeat (first | exact List.Sublist.refl _ | apply List.Sublist.cons)) ⟨(by (repeat (first | exact look_hit | (apply look_at; focus (first | rfl | (simp; done) | (congr 2; omega) | (refine vs ?_; exact str_ext rfl))) | (apply look_miss; focus rfl))); done), (by (repeat (first | exact look_hit | (apply look_at; focus (first | rfl | (simp; done) | (congr 2; omega) | (refine vs ?_; exact str_ext rfl))) | (apply look_miss; focus rfl))); done), (by (repeat (first | exact look_hit | (apply look_at; focus (first | rfl | (simp; done) | (congr 2; omega) | (refine vs ?_; exact str_ext rfl))) | (apply look_miss; focus rfl))); done), (by (repeat (first | exact look_hit | (apply look_at; focus (first | rfl | (simp; done) | (congr 2; omega) | (refine vs ?_; exact str_ext rfl))) | (apply look_miss; focus rfl))); done), trivial⟩, hnx1, (by omega), (fun _ => by simp), hnx2, (by simp; omega), rfl⟩
      exact Nat.lt_succ_self _
    · have hc0' := hc0
      (try simp only [decide_eq_true_eq, decide_eq_false_iff_not, beq_iff_eq, bne_iff_ne, Bool.not_eq_true', Bool.not_eq_false', Bool.not_eq_true, Bool.not_eq_false, beq_eq_false_iff_ne, ne_eq, bne_eq_false_iff_eq, Bool.and_eq_true, Bool.or_eq_true, Bool.not_not, Bool.and_eq_false_iff, Bool.or_eq_false_iff, Int.not_lt, Int.not_le] at hc0')
      have hi0 : i = 0 := by simp at *; omega
      have hdn : d ≠ [] := by rintro rfl; simp at *
      have hdk : d = digK k := by rw [← hdg, digR_stop hi0 hdn]
      subst hdk
      refine CD.exit ?_
      refine CD.seq ?_
      refine CD.region ?_
      refine OD.still (wants_plain rfl) rfl (still_mv rfl ot) ?_
      refine OD.still (wants_plain rfl) rfl (still_bin rfl ot opd_const (bin_cat (by (try simp only [cat_size]); show _ ≤ 9223372036854775807; (try rw [show (⟨#[95]⟩ : ByteArray).size = 1 from rfl]); (try rw [show (⟨#[40]⟩ : ByteArray).size = 1 from rfl]); (try rw [show (⟨#[41]⟩ : ByteArray).size = 1 from rfl]); omega))) ?_
      refine OD.still (wants_plain rfl) rfl (still_mv rfl ot) ?_
      refine OD.still (wants_plain rfl) rfl (still_bin rfl ot ot (bin_cat (by (try simp only [cat_size]); show _ ≤ 9223372036854775807; (try rw [show (⟨#[95]⟩ : ByteArray).size = 1 from rfl]); (try rw [show (⟨#[40]⟩ : ByteArray).size = 1 from rfl]); (try rw [show (⟨#[41]⟩ : ByteArray).size = 1 from rfl]); omega))) ?_
      refine OD.still (wants_plain rfl) rfl (still_bin rfl ot opd_const (bin_cat (by (try simp only [cat_size]); show _ ≤ 9223372036854775807; (try rw [show (⟨#[95]⟩ : ByteArray).size = 1 from rfl]); (try rw [show (⟨#[40]⟩ : ByteArray).size = 1 from rfl]); (try rw [show (⟨#[41]⟩ : ByteArray).size = 1 from rfl]); omega))) ?_
      refine OD.still (wants_plain rfl) rfl (still_mv rfl ot) ?_
      refine OD.still (wants_plain rfl) rfl (still_bin rfl ot ot (bin_cat (by (try simp only [cat_size]); show _ ≤ 9223372036854775807; (try rw [show (⟨#[95]⟩ : ByteArray).size = 1 from rfl]); (try rw [show (⟨#[40]⟩ : ByteArray).size = 1 from rfl]); (try rw [show (⟨#[41]⟩ : ByteArray).size = 1 from rfl]); omega))) ?_
      refine OD.still (wants_plain rfl) rfl (still_bin rfl ot opd_const (bin_cat (by (try simp only [cat_size]); show _ ≤ 9223372036854775807; (try rw [show (⟨#[95]⟩ : ByteArray).size = 1 from rfl]); (try rw [show (⟨#[40]⟩ : ByteArray).size = 1 from rfl]); (try rw [show (⟨#[41]⟩ : ByteArray).size = 1 from rfl]); omega))) ?_
      refine OD.callP (wants_plain rfl) rfl rfl rfl Tryd.call10 (v1) ⟨ot, trivial⟩ ?_
      refine OD.still (wants_plain rfl) rfl (still_mv rfl ot) ?_
      refine OD.still (wants_plain rfl) rfl (still_extract rfl ot rfl) ?_
      refine OD.still (wants_plain rfl) rfl (still_extract rfl ot rfl) ?_
      refine OD.still (wants_plain rfl) rfl (still_extract rfl ot rfl) ?_
      refine OD.still (wants_plain rfl) rfl (still_as rfl ot) ?_
      refine OD.still (wants_plain rfl) rfl (still_as rfl ot) ?_
      refine OD.still (wants_plain rfl) rfl (still_as rfl ot) ?_
      refine OD.wk (Wk.as_ (n := 91) (l' := [(5, _), (6, _), (7, _), (9, _), (11, _)]) (S' := []) rfl rfl ⟨lk, lk, lk, lk, lk, trivial⟩) ?_
      refine OD.nil ?_
      refine CD.seq ?_
      refine CD.region ?_
      refine OD.still (wants_plain rfl) rfl (still_mv rfl ot) ?_
      refine OD.still (wants_plain rfl) rfl (still_mv rfl ot) ?_
      refine OD.still (wants_plain rfl) rfl (still_bin rfl ot ot (bin_cat (by (try simp only [cat_size]); show _ ≤ 9223372036854775807; (try rw [show (⟨#[95]⟩ : ByteArray).size = 1 from rfl]); (try rw [show (⟨#[40]⟩ : ByteArray).size = 1 from rfl]); (try rw [show (⟨#[41]⟩ : ByteArray).size = 1 from rfl]); omega))) ?_
      refine OD.callP (wants_plain rfl) rfl rfl rfl Tryd.call10 (v2) ⟨ot, trivial⟩ ?_
      refine OD.still (wants_plain rfl) rfl (still_mv rfl ot) ?_
      refine OD.still (wants_plain rfl) rfl (still_extract rfl ot rfl) ?_
      refine OD.still (wants_plain rfl) rfl (still_extract rfl ot rfl) ?_
      refine OD.still (wants_plain rfl) rfl (still_extract rfl ot rfl) ?_
      refine OD.still (wants_plain rfl) rfl (still_as rfl ot) ?_
      refine OD.still (wants_plain rfl) rfl (still_as rfl ot) ?_
      refine OD.still (wants_plain rfl) rfl (still_as rfl ot) ?_
      refine OD.wk (Wk.as_ (n := 91) (l' := [(5, _), (6, _), (7, _), (9, _), (11, _), (13, _), (14, _)]) (S' := []) rfl rfl ⟨lk, lk, lk, lk, lk, lk, lk, trivial⟩) ?_
      refine OD.nil ?_
      refine CD.seq ?_
      refine CD.region ?_
      refine OD.still (wants_plain rfl) rfl (still_mv rfl ot) ?_
      refine OD.still (wants_plain rfl) rfl (still_bin rfl ot opd_const bin_eql) ?_
      refine OD.still (wants_plain rfl) rfl (still_mv rfl ot) ?_
      refine OD.split (t := 59) lk (fun hg59 => ?_) (fun hg59 => ?_)
      · have hg59' := hg59; (try simp only [decide_eq_true_eq, decide_eq_false_iff_not, beq_iff_eq, bne_iff_ne, Bool.not_eq_true', Bool.not_eq_false', Bool.not_eq_true, Bool.not_eq_false, beq_eq_false_iff_ne, ne_eq, bne_eq_false_iff_eq, Bool.and_eq_true, Bool.or_eq_true, Bool.not_not] at hg59')
        refine OD.still (wants_T rfl rfl rfl lk (by first | rfl | assumption)) rfl (still_mv rfl ot) ?_
        refine OD.still (wants_T rfl rfl rfl lk (by first | rfl | assumption)) rfl (still_bin rfl ot opd_const bin_eql) ?_
        refine OD.still (wants_plain rfl) rfl (still_pickT rfl ot (by first | rfl | assumption) ot) ?_
        refine OD.still (wants_plain rfl) rfl (still_mv rfl ot) ?_
        refine OD.split (t := 63) lk (fun hg63 => ?_) (fun hg63 => ?_)
        · have hg63' := hg63; (try simp only [decide_eq_true_eq, decide_eq_false_iff_not, beq_iff_eq, bne_iff_ne, Bool.not_eq_true', Bool.not_eq_false', Bool.not_eq_true, Bool.not_eq_false, beq_eq_false_iff_ne, ne_eq, bne_eq_false_iff_eq, Bool.and_eq_true, Bool.or_eq_true, Bool.not_not] at hg63')
          refine OD.still (wants_T rfl rfl rfl lk (by first | rfl | assumption)) rfl (still_mv rfl ot) ?_
          refine OD.still (wants_T rfl rfl rfl lk (by first | rfl | assumption)) rfl (still_bin rfl ot opd_const bin_eql) ?_
          refine OD.still (wants_plain rfl) rfl (still_pickT rfl ot (by first | rfl | assumption) ot) ?_
          refine OD.still (wants_plain rfl) rfl (still_mv rfl ot) ?_
          refine OD.split (t := 67) lk (fun hg67 => ?_) (fun hg67 => ?_)
          · have hg67' := hg67; (try simp only [decide_eq_true_eq, decide_eq_false_iff_not, beq_iff_eq, bne_iff_ne, Bool.not_eq_true', Bool.not_eq_false', Bool.not_eq_true, Bool.not_eq_false, beq_eq_false_iff_ne, ne_eq, bne_eq_false_iff_eq, Bool.and_eq_true, Bool.or_eq_true, Bool.not_not] at hg67')
            refine OD.still (wants_T rfl rfl rfl lk (by first | rfl | assumption)) rfl (still_mv rfl ot) ?_
            refine OD.still (wants_T rfl rfl rfl lk (by first | rfl | assumption)) rfl (still_r1 (mk := fun y => .call { callee := .builtin .len, args := #[y], argTypes := #[25] }) rfl ot (by first | exact len_list rfl Tryd.runUnderlying25 | exact len_row rfl Tryd.runUnderlying25)) ?_
            refine OD.still (wants_T rfl rfl rfl lk (by first | rfl | assumption)) rfl (still_bin rfl ot opd_const bin_eql) ?_
            refine OD.still (wants_plain rfl) rfl (still_pickT rfl ot (by first | rfl | assumption) ot) ?_
            refine OD.still (wants_plain rfl) rfl (still_mv rfl ot) ?_
            refine OD.split (t := 72) lk (fun hg72 => ?_) (fun hg72 => ?_)
            · have hg72' := hg72; (try simp only [decide_eq_true_eq, decide_eq_false_iff_not, beq_iff_eq, bne_iff_ne, Bool.not_eq_true', Bool.not_eq_false', Bool.not_eq_true, Bool.not_eq_false, beq_eq_false_iff_ne, ne_eq, bne_eq_false_iff_eq, Bool.and_eq_true, Bool.or_eq_true, Bool.not_not] at hg72')
              refine OD.still (wants_T rfl rfl rfl lk (by first | rfl | assumption)) rfl (still_mv rfl ot) ?_
              refine OD.still (wants_T rfl rfl rfl lk (by first | rfl | assumption)) rfl (still_r2 (mk := Op.indexAddr 25) rfl ot opd_const (by first | exact ix_list Tryd.runUnderlying25 Tryd.sizeOf30 rfl (by simp) | exact ix_row Tryd.runUnderlying25 Tryd.sizeOf30 rfl (by simp))) ?_
              refine OD.still (wants_T rfl rfl rfl lk (by first | rfl | assumption)) rfl (still_r1 (mk := Op.load 30) rfl ot (by exact ld_is (ds := [_, _, _]) Tryd.isAgg30 Tryd.sizeOf30 rfl rfl)) ?_
              refine OD.still (wants_T rfl rfl rfl lk (by first | rfl | assumption)) rfl (still_mv rfl ot) ?_
              refine OD.still (wants_T rfl rfl rfl lk (by first | rfl | assumption)) rfl (still_bin rfl ot opd_const (bin_cat (by (try simp only [cat_size]); show _ ≤ 9223372036854775807; (try rw [show (⟨#[95]⟩ : ByteArray).size = 1 from rfl]); (try rw [show (⟨#[40]⟩ : ByteArray).size = 1 from rfl]); (try rw [show (⟨#[41]⟩ : ByteArray).size = 1 from rfl]); omega))) ?_
              refine OD.still (wants_T rfl rfl rfl lk (by first | rfl | assumption)) rfl (still_mv rfl ot) ?_
              refine OD.still (wants_T rfl rfl rfl lk (by first | rfl | assumption)) rfl (still_bin rfl ot ot (bin_cat (by (try simp only [cat_size]); show _ ≤ 9223372036854775807; (try rw [show (⟨#[95]⟩ : ByteArray).size = 1 from rfl]); (try rw [show (⟨#[40]⟩ : ByteArray).size = 1 from rfl]); (try rw [show (⟨#[41]⟩ : ByteArray).size = 1 from rfl]); omega))) ?_
              refine OD.still (wants_T rfl rfl rfl lk (by first | rfl | assumption)) rfl (still_bld (pl := [(0, _), (1, _)]) (ds := [_, _, _]) rfl Tryd.zeroValue30 Tryd.runUnderlying30 places30_Lx3 ⟨rfl, opd_const, rfl, ot, trivial⟩ rfl rfl) ?_
              refine OD.still (wants_T rfl rfl rfl lk (by first | rfl | assumption)) rfl (still_eqS (us := [_, _, _]) (us' := [_, _, _]) rfl ot ot Tryd.eqGuardType30 (eqs30 ⟨1, ⟨(wordL s ++ [95] ++ digK k).toArray⟩, 0⟩ ⟨1, (wordF s) ++ ⟨#[95]⟩ ++ (⟨(digK k).toArray⟩ : ByteArray), 0⟩)) ?_
              refine OD.still (wants_plain rfl) rfl (still_pickT rfl ot (by first | rfl | assumption) ot) ?_
              refine OD.still (wants_plain rfl) rfl (still_mv rfl ot) ?_
              refine OD.split (t := 83) lk (fun hg83 => ?_) (fun hg83 => ?_)
              · have hg83' := hg83; (try simp only [decide_eq_true_eq, decide_eq_false_iff_not, beq_iff_eq, bne_iff_ne, Bool.not_eq_true', Bool.not_eq_false', Bool.not_eq_true, Bool.not_eq_false, beq_eq_false_iff_ne, ne_eq, bne_eq_false_iff_eq, Bool.and_eq_true, Bool.or_eq_true, Bool.not_not] at hg83')
                refine OD.still (wants_T rfl rfl rfl lk (by first | rfl | assumption)) rfl (still_mv rfl ot) ?_
                refine OD.still (wants_T rfl rfl rfl lk (by first | rfl | assumption)) rfl (still_r2 (mk := Op.indexAddr 25) rfl ot opd_const (by first | exact ix_list Tryd.runUnderlying25 Tryd.sizeOf30 rfl (by simp) | exact ix_row Tryd.runUnderlying25 Tryd.sizeOf30 rfl (by simp))) ?_
                refine OD.still (wants_T rfl rfl rfl lk (by first | rfl | assumption)) rfl (still_r1 (mk := Op.load 30) rfl ot (by exact ld_is (ds := [_, _, _]) Tryd.isAgg30 Tryd.sizeOf30 rfl rfl)) ?_
                refine OD.still (wants_T rfl rfl rfl lk (by first | rfl | assumption)) rfl (still_mv rfl ot) ?_
                refine OD.still (wants_T rfl rfl rfl lk (by first | rfl | assumption)) rfl (still_bld (pl := [(0, _), (2, _)]) (ds := [_, _, _]) rfl Tryd.zeroValue30 Tryd.runUnderlying30 places30_Lx3 ⟨rfl, opd_const, rfl, ot, trivial⟩ rfl rfl) ?_
                refine OD.still (wants_T rfl rfl rfl lk (by first | rfl | assumption)) rfl (still_eqS (us := [_, _, _]) (us' := [_, _, _]) rfl ot ot Tryd.eqGuardType30 (eqs30 ⟨2, ⟨#[]⟩, (k : Int)⟩ ⟨2, ⟨#[]⟩, (k : Int)⟩)) ?_
                refine OD.still (wants_plain rfl) rfl (still_pickT rfl ot (by first | rfl | assumption) ot) ?_
                refine OD.still (wants_plain rfl) rfl (still_as rfl ot) ?_
                refine OD.wk (Wk.as_ (n := 91) (l' := [(4, _)]) (S' := []) rfl rfl ⟨lk, trivial⟩) ?_
                refine OD.nil ?_
                refine CD.ret ?_
                refine ⟨.inr rfl, _, [], List.nil_sublist _, ret_one Tryd.results3 (res_tmp (Nat.le_of_ble_eq_true rfl) lk), ?_⟩
                exact ⟨by first | rfl | simp [e3] | simp, rfl⟩
              · exact absurd hg83 (by rw [e3] at *; simp at *)
            · exact absurd hg72 (by simp at *)
          · exact absurd hg67 (by simp at *)
        · exact absurd hg63 (by simp at *)
      · exact absurd hg59 (by simp at *)

theorem walkLexWords (s : ByteArray) (ws : s.size ≤ maxLen) (a : Int) (wa : (Lit.int .i64 a).wf = true) (w : World) (h1 : MarksTab w) : Calls Tryd.prog 3 #[.string s, .int .i64 a] w fun e w' => e = .returned (.bool true) ∧ Below w.heap.size w w' :=
  (words_vp (G := [(0, marksC)]) List.mem_cons_self s ws a (wf_bd wa).1 (wf_bd wa).2).run
    (fun g hg => by
      simp only [List.mem_cons, List.not_mem_nil, or_false] at hg
      subst hg
      exact ⟨by decide, h1⟩) (RepL.vs w _ [_, _])

end Go.Proofs.YtdlcfkkkjklanaaDoor.Lx
