/-
  What the proof of KeyLong leans on, part 2 of 2: walks of the program's functions at the level of values, and plain facts of what they compute.
-/
import Derived.Test.YtoemmoeedhllfaaDoorPKeyLong1
namespace Go.Proofs.YtoemmoeedhllfaaDoor.Cd
open Go.RowKit V Pk Vl
set_option linter.unusedVariables false
set_option linter.unusedSimpArgs false

theorem repl_one (c : UInt8) (new : List UInt8) : ∀ s : List UInt8, Lib.replaceK [c] new (s.count c) s = s.flatMap fun b => if b = c then new else [b]
  | [] => rfl
  | b :: l => by
    have ih := repl_one c new l
    by_cases h : b = c
    · subst h
      have hi : Lib.index (b :: l) [b] = ((0 : Nat) : Int) := by rw [Lib.index_one]; simp [Lib.indexByte]
      rw [List.count_cons_self, Lib.replaceK_hit _ _ _ _ _ hi, List.flatMap_cons, if_pos rfl, ← ih]
      simp
    · have hc : (b :: l).count c = l.count c := List.count_cons_of_ne h
      rw [hc, List.flatMap_cons, if_neg h, ← ih]
      cases hk : l.count c with
      | zero => rfl
      | succ k =>
        obtain ⟨i, hi⟩ := Lib.index_of_count (s := l) (old := [c]) (by rw [Lib.count_one]; omega)
        have hi2 : Lib.index (b :: l) [c] = ((i + 1 : Nat) : Int) := by
          rw [Lib.index_one] at hi ⊢
          unfold Lib.indexByte
          rw [if_neg (by simpa using h), hi, if_neg (by rw [beq_iff_eq]; omega)]
          omega
        rw [Lib.replaceK_hit _ _ _ _ _ hi2, Lib.replaceK_hit _ _ _ _ _ hi]
        simp
def replS (c : UInt8) (new : List UInt8) (s : ByteArray) : ByteArray := ⟨(s.data.toList.flatMap fun b => if b = c then new else [b]).toArray⟩
theorem replAll_one (c : UInt8) (new s : List UInt8) : Lib.replaceAll s [c] new = s.flatMap fun b => if b = c then new else [b] := by
  unfold Lib.replaceAll Lib.replace Lib.replaceNum
  split
  · rename_i h
    have h' : [c] = new := by simpa using h
    subst h'
    induction s with
    | nil => rfl
    | cons b l ih =>
      rw [List.flatMap_cons, ← ih]
      have : (if b = c then [c] else [b]) = [b] := by
        split
        · rename_i e; rw [e]
        · rfl
      rw [this]; rfl
  · rw [if_pos (.inl (by decide)), Lib.count_one, repl_one]
variable {G : List (Nat × List Value)} {m : Int}
theorem repl_vp (hG : (3, [Value.int .i64 m]) ∈ G) (c : UInt8) (new : ByteArray) (s : ByteArray) (hs : s.size ≤ 1000000) (hn : new.size ≤ 1000) : VP Tryd.prog G 30 [.v (.string s), .v (.string ⟨#[c]⟩), .v (.string new)] (.v (.string (replS c new.data.toList s))) := by
  have hc : Lib.countB s ⟨#[c]⟩ ≤ 1000000 := by
    show Lib.count s.data.toList [c] ≤ 1000000
    rw [Lib.count_one]
    exact Nat.le_trans List.count_le_length (by rw [str_len]; exact hs)
  have hmul : Lib.countB s ⟨#[c]⟩ * new.size ≤ 1000000 * 1000 := Nat.mul_le_mul hc hn
  have key := VP.ofCalls (P := Tryd.prog) (G := G) (f := 30) (vs := [.string s, .string ⟨#[c]⟩, .string new]) (v := .string (replS c new.data.toList s)) fun w htab => by
    refine (Tryd.strings_ReplaceAll s ⟨#[c]⟩ new m w (by omega) (htab _ hG 0 _ rfl) (Nat.le_refl _) (by omega)).mono fun e w' ⟨h1, h2⟩ => ⟨?_, h2⟩
    rw [h1]
    congr 2
    show (⟨(Lib.replaceAll s.data.toList [c] new.data.toList).toArray⟩ : ByteArray) = _
    rw [replAll_one]; rfl
  exact key

/-! ### Keys -/
def kb (v : Vl) : UInt8 := UInt8.ofNat v.k.toNat
def nb (v : Vl) : UInt8 := UInt8.ofNat v.n.toNat
def uN (v : Vl) : Nat := (v.n + 9223372036854775808).toNat
def beAt (u k : Nat) : UInt8 := UInt8.ofNat (u / 256 ^ (7 - k))
def be8 (u : Nat) : List UInt8 := (List.range 8).map (beAt u)
def escL (s : List UInt8) : List UInt8 := s.flatMap fun b => if b = 0 then [0, 255] else [b]
def payV (v : Vl) : List UInt8 := if v.k = 1 then [nb v] else if v.k = 2 then be8 (uN v) else if v.k = 3 then escL v.s.data.toList ++ [0, 0] else []
def encV (v : Vl) : List UInt8 := kb v :: payV v
def encL (l : List Vl) : List UInt8 := l.flatMap encV
def errV : List Vl → Int
  | [] => 0
  | v :: r => if checkV v = 0 then errV r else checkV v
/-- What Encode answers. -/
def encR (l : List Vl) : List UInt8 × Int := if l.length > 6 then ([], 1) else if errV l ≠ 0 then ([], errV l) else if (encL l).length > 100 then ([], 5) else (encL l, 0)
def bytesL (b : List UInt8) : D := .list 1 (b.flatMap cB) b.length
def encD (r : List UInt8 × Int) : D := .tup [bytesL r.1, .v (.int .i64 r.2)]
theorem errV_no : ∀ {l : List Vl} {i : Nat} (hi : i < l.length), (∀ v ∈ l.take i, checkV v = 0) → checkV l[i] ≠ 0 → errV l = checkV l[i]
  | v :: r, 0, hi, _, h => by
    have h' : checkV v ≠ 0 := h
    show errV (v :: r) = checkV v
    rw [errV, if_neg h']
  | v :: r, i + 1, hi, h0, h => by
    rw [errV, if_pos (h0 v (by simp))]
    exact errV_no (l := r) (i := i) (by simpa using hi) (fun x hx => h0 x (by rw [List.take_succ_cons]; exact List.mem_cons_of_mem _ hx)) h
theorem errV_ok : ∀ {l : List Vl}, (∀ v ∈ l, checkV v = 0) → errV l = 0
  | [], _ => rfl
  | v :: r, h => by rw [errV, if_pos (h v List.mem_cons_self)]; exact errV_ok fun x hx => h x (List.mem_cons_of_mem _ hx)
theorem check_kind {v : Vl} (h : checkV v = 0) : 0 ≤ v.k ∧ v.k ≤ 3 := by
  unfold checkV at h
  split at h
  · omega
  · split at h
    · omega
    · split at h
      · omega
      · split at h
        · omega
        · cases h
theorem check_bool {v : Vl} (h : checkV v = 0) (hk : v.k = 1) : 0 ≤ v.n ∧ v.n ≤ 1 := by
  unfold checkV at h
  rw [if_neg (by omega), if_pos hk] at h
  split at h
  · cases h
  · omega
theorem check_text {v : Vl} (h : checkV v = 0) (hk : v.k = 3) : v.s.size ≤ 20 := by
  unfold checkV at h
  rw [if_neg (by omega), if_neg (by omega), if_neg (by omega), if_pos hk] at h
  split at h
  · cases h
  · split at h
    · cases h
    · omega
theorem kb_nat {v : Vl} (h : checkV v = 0) : ((kb v).toNat : Int) = v.k := by
  have := check_kind h
  unfold kb
  rw [UInt8.toNat_ofNat']
  omega
theorem nb_nat {v : Vl} (h : checkV v = 0) (hk : v.k = 1) : ((nb v).toNat : Int) = v.n := by
  have := check_bool h hk
  unfold nb
  rw [UInt8.toNat_ofNat']
  omega
theorem kb_wrap {v : Vl} (h : checkV v = 0) : IntKind.u8.wrap v.k = ((kb v).toNat : Int) := by
  have := check_kind h
  rw [kb_nat h]
  show v.k % 256 = _
  omega
theorem nb_wrap {v : Vl} (h : checkV v = 0) (hk : v.k = 1) : IntKind.u8.wrap v.n = ((nb v).toNat : Int) := by
  have := check_bool h hk
  rw [nb_nat h hk]
  show v.n % 256 = _
  omega
theorem uN_int {v : Vl} (h : v.Ok) : ((uN v : Nat) : Int) = v.n + 9223372036854775808 := by have := h.n1; unfold uN; omega
theorem shr_at {u k : Nat} (hk : k ≤ 7) : (u : Int).fdiv (2 ^ min ((56 : Int) - 8 * (k : Int)).toNat IntKind.u64.bits) = ((u / 256 ^ (7 - k) : Nat) : Int) := by
  have e1 : min ((56 : Int) - 8 * (k : Int)).toNat IntKind.u64.bits = 8 * (7 - k) := by
    show min _ 64 = _
    omega
  have e3 : (2 ^ (8 * (7 - k)) : Nat) = 256 ^ (7 - k) := by rw [Nat.pow_mul]
  have e2 : ((2 : Int) ^ (8 * (7 - k))) = ((256 ^ (7 - k) : Nat) : Int) := by
    rw [← e3, Int.natCast_pow]; rfl
  rw [e1, e2]
  exact (Int.ofNat_fdiv _ _).symm
theorem u8_wrap (x : Nat) : IntKind.u8.wrap (x : Int) = ((UInt8.ofNat x).toNat : Int) := by
  rw [UInt8.toNat_ofNat']
  show (x : Int) % 256 = _
  omega
theorem be_step {u k : Nat} (hk : k ≤ 7) : (be8 u).take k ++ [beAt u k] = (be8 u).take (k + 1) := by
  have hl : k < (be8 u).length := by simp [be8]; omega
  rw [List.take_succ_eq_append_getElem hl]
  congr 2
  simp [be8]
theorem be_len (u : Nat) : (be8 u).length = 8 := by simp [be8]
theorem esc_len (s : List UInt8) : (escL s).length ≤ 2 * s.length := by
  induction s with
  | nil => simp [escL]
  | cons b l ih =>
    unfold escL at ih ⊢
    rw [List.flatMap_cons, List.length_append, List.length_cons]
    split <;> simp only [List.length_cons, List.length_nil] <;> omega
theorem enc_len {v : Vl} (h : checkV v = 0) : (encV v).length ≤ 43 := by
  unfold encV payV
  rw [List.length_cons]
  split
  · simp
  · split
    · rw [be_len]; omega
    · split
      · rename_i hk
        have h1 := check_text h hk
        have h2 := esc_len v.s.data.toList
        rw [str_len] at h2
        rw [List.length_append]; simp; omega
      · simp
theorem encL_len : ∀ {l : List Vl}, (∀ v ∈ l, checkV v = 0) → (encL l).length ≤ 43 * l.length
  | [], _ => Nat.le_refl _
  | v :: r, h => by
    have h1 := enc_len (h v List.mem_cons_self)
    have h2 := encL_len (l := r) fun x hx => h x (List.mem_cons_of_mem _ hx)
    unfold encL at h2 ⊢
    rw [List.flatMap_cons, List.length_append, List.length_cons]
    omega
theorem encL_step {l : List Vl} {i : Nat} (hi : i < l.length) : encL (l.take i) ++ encV l[i] = encL (l.take (i + 1)) := by
  unfold encL
  rw [List.take_succ_eq_append_getElem hi, List.flatMap_append]
  simp
theorem pay_1 {v : Vl} (h : v.k = 1) : payV v = [nb v] := if_pos h
theorem pay_2 {v : Vl} (h : v.k = 2) : payV v = be8 (uN v) := by unfold payV; rw [if_neg (by omega), if_pos h]
theorem pay_3 {v : Vl} (h : v.k = 3) : payV v = escL v.s.data.toList ++ [0, 0] := by unfold payV; rw [if_neg (by omega), if_neg (by omega), if_pos h]
theorem pay_0 {v : Vl} (h1 : ¬ v.k = 1) (h2 : ¬ v.k = 2) (h3 : ¬ v.k = 3) : payV v = [] := by unfold payV; rw [if_neg h1, if_neg h2, if_neg h3]
theorem esc_repl (s : ByteArray) : (replS 0 [0, 255] s).data.toList = escL s.data.toList := rfl

theorem info5_Cd1 : (Tryd.prog.info? 5).map (fun i => (i.zero, i.size, i.bytes)) = some (some (.int .u8 0), 1, 1) := by kernel_rfl

set_option maxHeartbeats 4000000 in
set_option maxRecDepth 100000 in
theorem enc_vp (hG : (3, [Value.int .i64 m]) ∈ G) (l : List Vl) (hl : l.length ≤ maxLen) (hok : ∀ v ∈ l, v.Ok) : VP Tryd.prog G 14 [.list 3 (l.flatMap cV) l.length] (encD (encR l)) := by
  refine VC.body Tryd.func14 rfl Tryd.ntmps14 (Nat.le_of_ble_eq_true rfl) fun X0 w0 S00 => ?_
  refine CD.seq ?_
  refine CD.region ?_
  refine OD.still (wants_plain rfl) rfl (still_as rfl opd_const) ?_
  refine OD.still (wants_plain rfl) rfl (still_as rfl opd_const) ?_
  refine OD.wk (Wk.as_ (n := 72) (l' := [(0, _)]) (S' := []) rfl rfl ⟨lk, trivial⟩) ?_
  refine OD.nil ?_
  refine CD.seq ?_
  refine CD.seq ?_
  refine CD.region ?_
  refine OD.still (wants_plain rfl) rfl (still_mv rfl ot) ?_
  refine OD.still (wants_plain rfl) rfl (still_r1 (mk := fun y => .call { callee := .builtin .len, args := #[y], argTypes := #[23] }) rfl ot (by first | exact len_list rfl Tryd.runUnderlying23 | exact len_row rfl Tryd.runUnderlying23)) ?_
  refine OD.still (wants_plain rfl) rfl (still_bin rfl ot opd_const bin_gtr) ?_
  refine OD.wk (Wk.as_ (n := 72) (l' := [(0, _), (12, _)]) (S' := []) rfl rfl ⟨lk, lk, trivial⟩) ?_
  refine OD.nil ?_
  refine CD.cond ot (fun hc0 => ?_) (fun hc0 => ?_)
  · have hc0' := hc0
    (try simp only [decide_eq_true_eq, decide_eq_false_iff_not, beq_iff_eq, bne_iff_ne, Bool.not_eq_true', Bool.not_eq_false', Bool.not_eq_true, Bool.not_eq_false, beq_eq_false_iff_ne, ne_eq, bne_eq_false_iff_eq, Bool.and_eq_true, Bool.or_eq_true, Bool.not_not, Bool.and_eq_false_iff, Bool.or_eq_false_iff, Int.not_lt, Int.not_le] at hc0')
    have hres : encR l = ([], 1) := if_pos (by omega)
    refine CD.seq ?_
    refine CD.region ?_
    refine OD.still (wants_plain rfl) rfl (still_as rfl opd_const) ?_
    refine OD.still (wants_plain rfl) rfl (still_as rfl opd_const) ?_
    refine OD.wk (Wk.as_ (n := 72) (l' := [(2, _), (3, _)]) (S' := []) rfl rfl ⟨lk, lk, trivial⟩) ?_
    refine OD.nil ?_
    refine CD.wk (Wk.giveNil (t := 2) (sz := 1) lk) ?_
    refine CD.ret ?_
    refine ⟨.inr rfl, _, [], List.nil_sublist _, ret_two Tryd.results14 (res_tmp (Nat.le_of_ble_eq_true rfl) lk) (res_tmp (Nat.le_of_ble_eq_true rfl) lk), ?_⟩
    first | (rw [hres]; exact ⟨rfl, rfl⟩) | (rw [hres, ← htk]; exact ⟨rfl, rfl⟩)
  · have hc0' := hc0
    (try simp only [decide_eq_true_eq, decide_eq_false_iff_not, beq_iff_eq, bne_iff_ne, Bool.not_eq_true', Bool.not_eq_false', Bool.not_eq_true, Bool.not_eq_false, beq_eq_false_iff_ne, ne_eq, bne_eq_false_iff_eq, Bool.and_eq_true, Bool.or_eq_true, Bool.not_not, Bool.and_eq_false_iff, Bool.or_eq_false_iff, Int.not_lt, Int.not_le] at hc0')
    have h6 : l.length ≤ 6 := by omega
    refine CD.skip ?_
    refine CD.seq ?_
    refine CD.region ?_
    refine OD.still (wants_plain rfl) rfl (still_as rfl opd_const) ?_
    refine OD.wk (Wk.as_ (n := 72) (l' := [(0, _), (4, _)]) (S' := ([])) rfl rfl ⟨lk, lk, trivial⟩) ?_
    refine OD.nil ?_
    refine CD.seq ?_
    refine CD.seq ?_
    refine CD.region ?_
    refine OD.still (wants_plain rfl) rfl (still_mv rfl ot) ?_
    refine OD.still (wants_plain rfl) rfl (still_r1 (mk := fun y => .call { callee := .builtin .len, args := #[y], argTypes := #[23] }) rfl ot (by first | exact len_list rfl Tryd.runUnderlying23 | exact len_row rfl Tryd.runUnderlying23)) ?_
    refine OD.still (wants_plain rfl) rfl (still_mv rfl opd_const) ?_
    refine OD.wk (Wk.as_ (n := 72) (l' := [(4, _), (13, _), (14, _), (15, _)]) (S' := ([])) rfl rfl ⟨lk, lk, lk, lk, trivial⟩) ?_
    refine OD.nil ?_
    refine CD.block ?_
    refine CD.wk (Wk.asS (n := 72) (l' := [(4, .v (.slice none (encL (l.take (0))).length (0))), (13, .list 3 (l.flatMap cV) l.length), (14, .v (.int .i64 l.length)), (15, .v (.int .i64 ((0) : Nat)))]) (S' := (([]))) rfl (by repeat (first | exact List.Sublist.refl _ | apply List.Sublist.cons_cons | apply List.Sublist.cons)) ⟨(by (repeat (first | exact look_hit | (apply look_at; focus (first | rfl | (simp; done) | (congr 2; omega) | (apply row_eq; rw [← encL_step hlt]; unfold encV; first | (rw [pay_1 (by assumption)]; simp; done) | (rw [pay_2 (by assumption), List.take_of_length_le (l := be8 (uN l[i])) (by rw [be_len]; omega)]; simp; done) | (rw [pay_3 (by assumption), ← esc_repl]; simp; done) | (rw [pay_0 (by assumption) (by assumption) (by assumption)]; done)) | (apply row_eq; rfl) | (apply row_eq; simp; done))) | (apply look_miss; focus rfl))); done), (by (repeat (first | exact look_hit | (apply look_at; focus (first | rfl | (simp; done) | (congr 2; omega) | (apply row_eq; rw [← encL_step hlt]; unfold encV; first | (rw [pay_1 (by assumption)]; simp; done) | (rw [pay_2 (by assumption), List.take_of_length_le (l := be8 (uN l[i])) (by rw [be_len]; omega)]; simp; done) | (rw [pay_3 (by assumption), ← esc_repl]; simp; done) | (rw [pay_0 (by assumption) (by assumption) (by assumption)]; done)) | (apply row_eq; rfl) | (apply row_eq; simp; done))) | (apply look_miss; focus rfl))); done), (by (repeat (first | exact look_hit | (apply look_at; focus (first | rfl | (simp; done) | (congr 2; omega) | (apply row_eq; rw [← encL_step hlt]; unfold encV; first | (rw [pay_1 (by assumption)]; simp; done) | (rw [pay_2 (by assumption), List.take_of_length_le (l := be8 (uN l[i])) (by rw [be_len]; omega)]; simp; done) | (rw [pay_3 (by assumption), ← esc_repl]; simp; done) | (rw [pay_0 (by assumption) (by assumption) (by assumption)]; done)) | (apply row_eq; rfl) | (apply row_eq; simp; done))) | (apply look_miss; focus rfl))); done), (by (repeat (first | exact look_hit | (apply look_at; focus (first | rfl | (simp; done) | (congr 2; omega) | (apply row_eq; rw [← encL_step hlt]; unfold encV; first | (rw [pay_1 (by assumption)]; simp; done) | (rw [pay_2 (by assumption), List.take_of_length_le (l := be8 (uN l[i])) (by rw [be_len]; omega)]; simp; done) | (rw [pay_3 (by assumption), ← esc_repl]; simp; done) | (rw [pay_0 (by assumption) (by assumption) (by assumption)]; done)) | (apply row_eq; rfl) | (apply row_eq; simp; done))) | (apply look_miss; focus rfl))); done), trivial⟩) (CD.loop (fun (gh__ : Nat × Option Addr × Nat × List Blk) y__ => match gh__ with | (i, adb, cpb, Sb) => (i ≤ l.length) ∧ (∀ v ∈ l.take i, checkV v = 0) ∧ (OwnL 5 1 ((encL (l.take i)).flatMap cB) (encL (l.take i)).length adb cpb Sb) ∧ y__ = (⟨72, [(4, .v (.slice adb (encL (l.take i)).length cpb)), (13, .list 3 (l.flatMap cV) l.length), (14, .v (.int .i64 l.length)), (15, .v (.int .i64 (i : Nat)))], (Sb)⟩ : St)) (fun (gh__ : Nat × Option Addr × Nat × List Blk) => match gh__ with | (i, adb, cpb, Sb) => l.length - i) (0, none, 0, []) ⟨(Nat.zero_le _), (by simp), (OwnL.cast ownL_nil (by rfl)), rfl⟩ ?_)
    rintro ⟨i, adb, cpb, Sb⟩ _ ⟨hi, h0, hob, rfl⟩
    refine CD.seq ?_
    refine CD.region ?_
    refine OD.still (wants_plain rfl) rfl (still_bin rfl ot ot bin_lss) ?_
    refine OD.wk (Wk.as_ (n := 72) (l' := [(4, _), (13, _), (14, _), (15, _), (16, _)]) (S' := (Sb)) rfl rfl ⟨lk, lk, lk, lk, lk, trivial⟩) ?_
    refine OD.nil ?_
    refine CD.seq ?_
    refine CD.cond ot (fun hc1 => ?_) (fun hc1 => ?_)
    · have hc1' := hc1
      (try simp only [decide_eq_true_eq, decide_eq_false_iff_not, beq_iff_eq, bne_iff_ne, Bool.not_eq_true', Bool.not_eq_false', Bool.not_eq_true, Bool.not_eq_false, beq_eq_false_iff_ne, ne_eq, bne_eq_false_iff_eq, Bool.and_eq_true, Bool.or_eq_true, Bool.not_not, Bool.and_eq_false_iff, Bool.or_eq_false_iff, Int.not_lt, Int.not_le] at hc1')
      have hlt : i < l.length := by omega
      have hbl := encL_len h0
      rw [List.length_take] at hbl
      have hmx : maxLen = 9223372036854775807 := rfl
      have hvo := hok _ (List.getElem_mem hlt)
      refine CD.skip ?_
      refine CD.seq ?_
      refine CD.block ?_
      refine CD.seq ?_
      refine CD.region ?_
      refine OD.still (wants_plain rfl) rfl (still_r2 (mk := Op.indexAddr 23) rfl ot ot (by first | exact ix_list Tryd.runUnderlying23 Tryd.sizeOf30 rfl (by first | assumption | omega) | exact ix_list (j := Int.toNat _) Tryd.runUnderlying23 Tryd.sizeOf30 (Int.toNat_of_nonneg (by omega)).symm (by omega) | exact ix_row Tryd.runUnderlying23 Tryd.sizeOf30 rfl (by first | assumption | omega) | exact ix_row (j := Int.toNat _) Tryd.runUnderlying23 Tryd.sizeOf30 (Int.toNat_of_nonneg (by omega)).symm (by omega))) ?_
      refine OD.still (wants_plain rfl) rfl (still_r1 (mk := Op.load 30) rfl ot (by first | exact ld_fms cV_len Tryd.isAgg30 Tryd.sizeOf30 (by first | assumption | omega) | exact ld_is (ds := [_, _, _]) Tryd.isAgg30 Tryd.sizeOf30 rfl rfl)) ?_
      refine OD.alloc (ds := [_, _, _]) (wants_plain rfl) rfl rfl Tryd.zeroValue30 rfl (fun b6 => ?_)
      refine OD.store (k := 0) (cs' := [_, _, _]) (wants_plain rfl) rfl rfl ot rfl rfl ot rfl rfl Tryd.sizeOf30 rfl rfl rfl ?_
      refine OD.wk (Wk.as_ (n := 72) (l' := [(4, _), (6, _), (13, _), (14, _), (15, _)]) (S' := (⟨b6, 30, 3, [_, _, _]⟩ :: Sb)) rfl rfl ⟨lk, lk, lk, lk, lk, trivial⟩) ?_
      refine OD.nil ?_
      refine CD.seq ?_
      refine CD.seq ?_
      refine CD.region ?_
      refine OD.still (wants_plain rfl) rfl (still_r1 (mk := Op.load 30) rfl ot (by first | exact ld_blks (k := 0) (ds := [_, _, _]) rfl rfl Tryd.isAgg30 Tryd.sizeOf30 rfl rfl | exact ld_fms cV_len Tryd.isAgg30 Tryd.sizeOf30 (by first | assumption | omega) | exact ld_rows (k := 0) cV_len rfl rfl rfl Tryd.isAgg30 Tryd.sizeOf30 (by first | assumption | omega) | exact ld_is (ds := [_, _, _]) Tryd.isAgg30 Tryd.sizeOf30 rfl rfl)) ?_
      refine OD.callP (wants_plain rfl) rfl rfl rfl Tryd.call29 (Vl.check_vp l[i]) ⟨ot, trivial⟩ ?_
      refine OD.still (wants_plain rfl) rfl (still_as rfl ot) ?_
      refine OD.wk (Wk.as_ (n := 72) (l' := [(4, _), (6, _), (7, _), (13, _), (14, _), (15, _)]) (S' := (⟨b6, 30, 3, [_, _, _]⟩ :: Sb)) rfl rfl ⟨lk, lk, lk, lk, lk, lk, trivial⟩) ?_
      refine OD.nil ?_
      refine CD.seq ?_
      refine CD.region ?_
      refine OD.still (wants_plain rfl) rfl (still_mv rfl ot) ?_
      refine OD.still (wants_plain rfl) rfl (still_bin rfl ot opd_const bin_neq) ?_
      refine OD.wk (Wk.as_ (n := 72) (l' := [(4, _), (6, _), (7, _), (13, _), (14, _), (15, _), (22, _)]) (S' := (⟨b6, 30, 3, [_, _, _]⟩ :: Sb)) rfl rfl ⟨lk, lk, lk, lk, lk, lk, lk, trivial⟩) ?_
      refine OD.nil ?_
      refine CD.cond ot (fun hc2 => ?_) (fun hc2 => ?_)
      · have hc2' := hc2
        (try simp only [decide_eq_true_eq, decide_eq_false_iff_not, beq_iff_eq, bne_iff_ne, Bool.not_eq_true', Bool.not_eq_false', Bool.not_eq_true, Bool.not_eq_false, beq_eq_false_iff_ne, ne_eq, bne_eq_false_iff_eq, Bool.and_eq_true, Bool.or_eq_true, Bool.not_not, Bool.and_eq_false_iff, Bool.or_eq_false_iff, Int.not_lt, Int.not_le] at hc2')
        have hne : checkV l[i] ≠ 0 := by simpa using hc2
        have hres : encR l = ([], checkV l[i]) := by unfold encR; rw [if_neg (by omega), errV_no hlt h0 hne, if_pos hne]
        refine CD.seq ?_
        refine CD.region ?_
        refine OD.still (wants_plain rfl) rfl (still_mv rfl ot) ?_
        refine OD.still (wants_plain rfl) rfl (still_as rfl opd_const) ?_
        refine OD.still (wants_plain rfl) rfl (still_as rfl ot) ?_
        refine OD.wk (Wk.as_ (n := 72) (l' := [(2, _), (3, _)]) (S' := (⟨b6, 30, 3, [_, _, _]⟩ :: Sb)) rfl rfl ⟨lk, lk, trivial⟩) ?_
        refine OD.nil ?_
        refine CD.wk (Wk.giveNil (t := 2) (sz := 1) lk) ?_
        refine CD.ret ?_
        refine ⟨.inr rfl, _, [], List.nil_sublist _, ret_two Tryd.results14 (res_tmp (Nat.le_of_ble_eq_true rfl) lk) (res_tmp (Nat.le_of_ble_eq_true rfl) lk), ?_⟩
        first | (rw [hres]; exact ⟨rfl, rfl⟩) | (rw [hres, ← htk]; exact ⟨rfl, rfl⟩)
      · have hc2' := hc2
        (try simp only [decide_eq_true_eq, decide_eq_false_iff_not, beq_iff_eq, bne_iff_ne, Bool.not_eq_true', Bool.not_eq_false', Bool.not_eq_true, Bool.not_eq_false, beq_eq_false_iff_ne, ne_eq, bne_eq_false_iff_eq, Bool.and_eq_true, Bool.or_eq_true, Bool.not_not, Bool.and_eq_false_iff, Bool.or_eq_false_iff, Int.not_lt, Int.not_le] at hc2')
        have hchk : checkV l[i] = 0 := by simpa using hc2
        refine CD.skip ?_
        refine CD.seq ?_
        refine CD.region ?_
        refine OD.still (wants_plain rfl) rfl (still_mv rfl ot) ?_
        refine OD.still (wants_plain rfl) rfl (still_r1 (mk := fun y => Op.fieldAddr 30 y 0) rfl ot (by first | exact fa_ptr (off := 0) Tryd.runUnderlying30 rfl Tryd.sizeOf3 rfl | exact fa_iptr (off := 0) Tryd.runUnderlying30 rfl Tryd.sizeOf3 rfl)) ?_
        refine OD.still (wants_plain rfl) rfl (still_r1 (mk := Op.load 3) rfl ot (by first | exact ld_blk (k := 0) rfl rfl Tryd.isAgg3 rfl | exact ld_fm cV_len Tryd.isAgg3 (by first | assumption | omega) rfl | exact ld_fm0 cV_len Tryd.isAgg3 (by first | assumption | omega) rfl | exact ld_row (k := 0) cV_len rfl rfl rfl Tryd.isAgg3 (by first | assumption | omega) rfl | exact ld_row0 (k := 0) cV_len rfl rfl rfl Tryd.isAgg3 (by first | assumption | omega) rfl | exact ld_i Tryd.isAgg3 rfl)) ?_
        refine OD.still (wants_plain rfl) rfl (still_conv (r := .int .u8 ((kb l[i]).toNat : Int)) rfl ot (conv_int Tryd.runUnderlying3 Tryd.runUnderlying5 (kb_wrap hchk))) ?_
        refine OD.bldS (pl := [(0, _)]) (zvs := [.int .u8 0]) (ds := [_]) (wants_plain rfl) rfl rfl Tryd.zeroValue5 Tryd.runUnderlying25 Tryd.sizeOf5 rfl rfl (by kernel_rfl) ⟨rfl, ot, trivial⟩ rfl rfl (fun b28 => ?_)
        refine OD.give (k := 0) (t := 28) (sz := 1) (m := 1) rfl lk rfl rfl rfl (Nat.le_refl _) (by decide) ?_
        refine OD.appendG (ls := (encL (l.take i))) (new := [kb l[i]]) (Sq := Sb) cB_len cB_one (wants_plain rfl) rfl rfl Tryd.underlying25 info5_Cd1 rfl (by decide) ot hob (perm_r11 (A := [_])) ot (by simp) (by have hmx : maxLen = 9223372036854775807 := rfl; (try simp only [List.length_append, List.length_cons, List.length_nil, List.length_take, be_len]); omega) (by have hmx : maxLen = 9223372036854775807 := rfl; (try simp only [List.length_append, List.length_cons, List.length_nil, List.length_take, be_len]); omega) (fun b29 cp29 h129 h229 => ?_)
        refine OD.perm (perm_q11 (S1 := [⟨b29, 5, cp29 * 1, List.flatMap cB ((encL (l.take i)) ++ [kb l[i]])⟩]) (A := [_])) ?_
        refine OD.still (wants_plain rfl) rfl (still_as rfl ot) ?_
        refine OD.wk (Wk.as_ (n := 72) (l' := [(4, _), (6, _), (13, _), (14, _), (15, _)]) (S' := (⟨b6, 30, 3, [_, _, _]⟩ :: [⟨b29, 5, cp29 * 1, List.flatMap cB ((encL (l.take i)) ++ [kb l[i]])⟩])) rfl rfl ⟨lk, lk, lk, lk, lk, trivial⟩) ?_
        refine OD.nil ?_
        refine CD.seq ?_
        refine CD.region ?_
        refine OD.still (wants_plain rfl) rfl (still_r1 (mk := fun y => Op.fieldAddr 30 y 0) rfl ot (by first | exact fa_ptr (off := 0) Tryd.runUnderlying30 rfl Tryd.sizeOf3 rfl | exact fa_iptr (off := 0) Tryd.runUnderlying30 rfl Tryd.sizeOf3 rfl)) ?_
        refine OD.still (wants_plain rfl) rfl (still_r1 (mk := Op.load 3) rfl ot (by first | exact ld_blk (k := 0) rfl rfl Tryd.isAgg3 rfl | exact ld_fm cV_len Tryd.isAgg3 (by first | assumption | omega) rfl | exact ld_fm0 cV_len Tryd.isAgg3 (by first | assumption | omega) rfl | exact ld_row (k := 0) cV_len rfl rfl rfl Tryd.isAgg3 (by first | assumption | omega) rfl | exact ld_row0 (k := 0) cV_len rfl rfl rfl Tryd.isAgg3 (by first | assumption | omega) rfl | exact ld_i Tryd.isAgg3 rfl)) ?_
        refine OD.wk (Wk.as_ (n := 72) (l' := [(4, _), (6, _), (13, _), (14, _), (15, _), (31, _)]) (S' := (⟨b6, 30, 3, [_, _, _]⟩ :: [⟨b29, 5, cp29 * 1, List.flatMap cB ((encL (l.take i)) ++ [kb l[i]])⟩])) rfl rfl ⟨lk, lk, lk, lk, lk, lk, trivial⟩) ?_
        refine OD.nil ?_
        refine CD.block ?_
        refine CD.seq ?_
        refine CD.region ?_
        refine OD.still (wants_plain rfl) rfl (still_bin rfl ot opd_const bin_eql) ?_
        refine OD.still (wants_plain rfl) rfl (still_as rfl ot) ?_
        refine OD.wk (Wk.as_ (n := 72) (l' := [(4, _), (6, _), (13, _), (14, _), (15, _), (31, _), (32, _)]) (S' := (⟨b6, 30, 3, [_, _, _]⟩ :: [⟨b29, 5, cp29 * 1, List.flatMap cB ((encL (l.take i)) ++ [kb l[i]])⟩])) rfl rfl ⟨lk, lk, lk, lk, lk, lk, lk, trivial⟩) ?_
        refine OD.nil ?_
        refine CD.cond ot (fun hc3 => ?_) (fun hc3 => ?_)
        · have hc3' := hc3
          (try simp only [decide_eq_true_eq, decide_eq_false_iff_not, beq_iff_eq, bne_iff_ne, Bool.not_eq_true', Bool.not_eq_false', Bool.not_eq_true, Bool.not_eq_false, beq_eq_false_iff_ne, ne_eq, bne_eq_false_iff_eq, Bool.and_eq_true, Bool.or_eq_true, Bool.not_not, Bool.and_eq_false_iff, Bool.or_eq_false_iff, Int.not_lt, Int.not_le] at hc3')
          have hk1 : l[i].k = 1 := by simpa using hc3
          refine CD.region ?_
          refine OD.still (wants_plain rfl) rfl (still_mv rfl ot) ?_
          refine OD.still (wants_plain rfl) rfl (still_r1 (mk := fun y => Op.fieldAddr 30 y 1) rfl ot (by first | exact fa_ptr (off := 1) Tryd.runUnderlying30 rfl Tryd.sizeOf3 rfl | exact fa_iptr (off := 1) Tryd.runUnderlying30 rfl Tryd.sizeOf3 rfl)) ?_
          refine OD.still (wants_plain rfl) rfl (still_r1 (mk := Op.load 3) rfl ot (by first | exact ld_blk (k := 0) rfl rfl Tryd.isAgg3 rfl | exact ld_fm cV_len Tryd.isAgg3 (by first | assumption | omega) rfl | exact ld_fm0 cV_len Tryd.isAgg3 (by first | assumption | omega) rfl | exact ld_row (k := 0) cV_len rfl rfl rfl Tryd.isAgg3 (by first | assumption | omega) rfl | exact ld_row0 (k := 0) cV_len rfl rfl rfl Tryd.isAgg3 (by first | assumption | omega) rfl | exact ld_i Tryd.isAgg3 rfl)) ?_
          refine OD.still (wants_plain rfl) rfl (still_conv (r := .int .u8 ((nb l[i]).toNat : Int)) rfl ot (conv_int Tryd.runUnderlying3 Tryd.runUnderlying5 (nb_wrap hchk hk1))) ?_
          refine OD.bldS (pl := [(0, _)]) (zvs := [.int .u8 0]) (ds := [_]) (wants_plain rfl) rfl rfl Tryd.zeroValue5 Tryd.runUnderlying25 Tryd.sizeOf5 rfl rfl (by kernel_rfl) ⟨rfl, ot, trivial⟩ rfl rfl (fun b38 => ?_)
          refine OD.give (k := 0) (t := 38) (sz := 1) (m := 1) rfl lk rfl rfl rfl (Nat.le_refl _) (by decide) ?_
          refine OD.appendG (ls := ((encL (l.take i)) ++ [kb l[i]])) (new := [nb l[i]]) (Sq := [⟨b29, 5, cp29 * 1, List.flatMap cB ((encL (l.take i)) ++ [kb l[i]])⟩]) cB_len cB_one (wants_plain rfl) rfl rfl Tryd.underlying25 info5_Cd1 rfl (by decide) ot (ownL_row h129 h229) (perm_r11 (A := [_])) ot (by simp) (by have hmx : maxLen = 9223372036854775807 := rfl; (try simp only [List.length_append, List.length_cons, List.length_nil, List.length_take, be_len]); omega) (by have hmx : maxLen = 9223372036854775807 := rfl; (try simp only [List.length_append, List.length_cons, List.length_nil, List.length_take, be_len]); omega) (fun b39 cp39 h139 h239 => ?_)
          refine OD.perm (perm_q11 (S1 := [⟨b39, 5, cp39 * 1, List.flatMap cB (((encL (l.take i)) ++ [kb l[i]]) ++ [nb l[i]])⟩]) (A := [_])) ?_
          refine OD.still (wants_plain rfl) rfl (still_as rfl ot) ?_
          refine OD.wk (Wk.as_ (n := 72) (l' := [(4, _), (13, _), (14, _), (15, _)]) (S' := (⟨b6, 30, 3, [_, _, _]⟩ :: [⟨b39, 5, cp39 * 1, List.flatMap cB (((encL (l.take i)) ++ [kb l[i]]) ++ [nb l[i]])⟩])) rfl rfl ⟨lk, lk, lk, lk, trivial⟩) ?_
          refine OD.nil ?_
          refine CD.region ?_
          refine OD.still (wants_plain rfl) rfl (still_bin rfl ot opd_const (bin_add (wrap_i64 (by omega) (by omega)))) ?_
          refine OD.still (wants_plain rfl) rfl (still_mv rfl ot) ?_
          refine OD.wk (Wk.as_ (n := 72) (l' := [(4, _), (13, _), (14, _), (15, _)]) (S' := (⟨b6, 30, 3, [_, _, _]⟩ :: [⟨b39, 5, cp39 * 1, List.flatMap cB (((encL (l.take i)) ++ [kb l[i]]) ++ [nb l[i]])⟩])) rfl rfl ⟨lk, lk, lk, lk, trivial⟩) ?_
          refine OD.nil ?_
          refine ⟨((i + 1), (some ⟨b39, 0, none⟩), cp39, [⟨b39, 5, cp39 * 1, List.flatMap cB (((encL (l.take i)) ++ [kb l[i]]) ++ [nb l[i]])⟩]), ⟨72, [(4, .v (.slice ((some ⟨b39, 0, none⟩)) (encL (l.take ((i + 1)))).length cp39)), (13, .list 3 (l.flatMap cV) l.length), (14, .v (.int .i64 l.length)), (15, .v (.int .i64 (((i + 1)) : Nat)))], (([⟨b39, 5, cp39 * 1, List.flatMap cB (((encL (l.take i)) ++ [kb l[i]]) ++ [nb l[i]])⟩]))⟩, ?_, Wk.asS (n := 72) rfl (by repeat (first | exact List.Sublist.refl _ | apply List.Sublist.cons_cons | apply List.Sublist.cons)) ⟨(by (repeat (first | exact look_hit | (apply look_at; focus (first | rfl | (simp; done) | (congr 2; omega) | (apply row_eq; rw [← encL_step hlt]; unfold encV; first | (rw [pay_1 (by assumption)]; simp; done) | (rw [pay_2 (by assumption), List.take_of_length_le (l := be8 (uN l[i])) (by rw [be_len]; omega)]; simp; done) | (rw [pay_3 (by assumption), ← esc_repl]; simp; done) | (rw [pay_0 (by assumption) (by assumption) (by assumption)]; done)) | (apply row_eq; rfl) | (apply row_eq; simp; done))) | (apply look_miss; focus rfl))); done), (by (repeat (first | exact look_hit | (apply look_at; focus (first | rfl | (simp; done) | (congr 2; omega) | (apply row_eq; rw [← encL_step hlt]; unfold encV; first | (rw [pay_1 (by assumption)]; simp; done) | (rw [pay_2 (by assumption), List.take_of_length_le (l := be8 (uN l[i])) (by rw [be_len]; omega)]; simp; done) | (rw [pay_3 (by assumption), ← esc_repl]; simp; done) | (rw [pay_0 (by assumption) (by assumption) (by assumption)]; done)) | (apply row_eq; rfl) | (apply row_eq; simp; done))) | (apply look_miss; focus rfl))); done), (by (repeat (first | exact look_hit | (apply look_at; focus (first | rfl | (simp; done) | (congr 2; omega) | (apply row_eq; rw [← encL_step hlt]; unfold encV; first | (rw [pay_1 (by assumption)]; simp; done) | (rw [pay_2 (by assumption), List.take_of_length_le (l := be8 (uN l[i])) (by rw [be_len]; omega)]; simp; done) | (rw [pay_3 (by assumption), ← esc_repl]; simp; done) | (rw [pay_0 (by assumption) (by assumption) (by assumption)]; done)) | (apply row_eq; rfl) | (apply row_eq; simp; done))) | (apply look_miss; focus rfl))); done), (by (repeat (first | exact look_hit | (apply look_at; focus (first | rfl | (simp; done) | (congr 2; omega) | (apply row_eq; rw [← encL_step hlt]; unfold encV; first | (rw [pay_1 (by assumption)]; simp; done) | (rw [pay_2 (by assumption), List.take_of_length_le (l := be8 (uN l[i])) (by rw [be_len]; omega)]; simp; done) | (rw [pay_3 (by assumption), ← esc_repl]; simp; done) | (rw [pay_0 (by assumption) (by assumption) (by assumption)]; done)) | (apply row_eq; rfl) | (apply row_eq; simp; done))) | (apply look_miss; focus rfl))); done), trivial⟩, (by omega), (all_step hlt h0 hchk), (OwnL.cast (ownL_row h139 h239) (by rw [← encL_step hlt]; unfold encV; first | (rw [pay_1 (by assumption)]; simp; done) | (rw [pay_2 (by assumption), List.take_of_length_le (l := be8 (uN l[i])) (by rw [be_len]; omega)]; simp; done) | (rw [pay_3 (by assumption), ← esc_repl]; simp; done) | (rw [pay_0 (by assumption) (by assumption) (by assumption)]; done))), rfl⟩
          first | omega | (simp only []; omega)
        · have hc3' := hc3
          (try simp only [decide_eq_true_eq, decide_eq_false_iff_not, beq_iff_eq, bne_iff_ne, Bool.not_eq_true', Bool.not_eq_false', Bool.not_eq_true, Bool.not_eq_false, beq_eq_false_iff_ne, ne_eq, bne_eq_false_iff_eq, Bool.and_eq_true, Bool.or_eq_true, Bool.not_not, Bool.and_eq_false_iff, Bool.or_eq_false_iff, Int.not_lt, Int.not_le] at hc3')
          have hk1 : ¬ l[i].k = 1 := by simpa using hc3
          refine CD.seq ?_
          refine CD.region ?_
          refine OD.still (wants_plain rfl) rfl (still_bin rfl ot opd_const bin_eql) ?_
          refine OD.still (wants_plain rfl) rfl (still_as rfl ot) ?_
          refine OD.wk (Wk.as_ (n := 72) (l' := [(4, _), (6, _), (13, _), (14, _), (15, _), (31, _), (40, _)]) (S' := (⟨b6, 30, 3, [_, _, _]⟩ :: [⟨b29, 5, cp29 * 1, List.flatMap cB ((encL (l.take i)) ++ [kb l[i]])⟩])) rfl rfl ⟨lk, lk, lk, lk, lk, lk, lk, trivial⟩) ?_
          refine OD.nil ?_
          refine CD.cond ot (fun hc4 => ?_) (fun hc4 => ?_)
          · have hc4' := hc4
            (try simp only [decide_eq_true_eq, decide_eq_false_iff_not, beq_iff_eq, bne_iff_ne, Bool.not_eq_true', Bool.not_eq_false', Bool.not_eq_true, Bool.not_eq_false, beq_eq_false_iff_ne, ne_eq, bne_eq_false_iff_eq, Bool.and_eq_true, Bool.or_eq_true, Bool.not_not, Bool.and_eq_false_iff, Bool.or_eq_false_iff, Int.not_lt, Int.not_le] at hc4')
            have hk2 : l[i].k = 2 := by simpa using hc4
            refine CD.seq ?_
            refine CD.region ?_
            refine OD.still (wants_plain rfl) rfl (still_r1 (mk := fun y => Op.fieldAddr 30 y 1) rfl ot (by first | exact fa_ptr (off := 1) Tryd.runUnderlying30 rfl Tryd.sizeOf3 rfl | exact fa_iptr (off := 1) Tryd.runUnderlying30 rfl Tryd.sizeOf3 rfl)) ?_
            refine OD.still (wants_plain rfl) rfl (still_r1 (mk := Op.load 3) rfl ot (by first | exact ld_blk (k := 0) rfl rfl Tryd.isAgg3 rfl | exact ld_fm cV_len Tryd.isAgg3 (by first | assumption | omega) rfl | exact ld_fm0 cV_len Tryd.isAgg3 (by first | assumption | omega) rfl | exact ld_row (k := 0) cV_len rfl rfl rfl Tryd.isAgg3 (by first | assumption | omega) rfl | exact ld_row0 (k := 0) cV_len rfl rfl rfl Tryd.isAgg3 (by first | assumption | omega) rfl | exact ld_i Tryd.isAgg3 rfl)) ?_
            refine OD.still (wants_plain rfl) rfl (still_conv rfl ot (conv_int Tryd.runUnderlying3 Tryd.runUnderlying68 rfl)) ?_
            refine OD.still (wants_plain rfl) rfl (still_bin (r := .int .u64 ((uN l[i] : Nat) : Int)) rfl ot opd_const (bin_xor (by rw [uN_int hvo]; exact xor_i64 hvo.n1 hvo.n2))) ?_
            refine OD.still (wants_plain rfl) rfl (still_as rfl ot) ?_
            refine OD.wk (Wk.as_ (n := 72) (l' := [(4, _), (8, _), (13, _), (14, _), (15, _)]) (S' := (⟨b6, 30, 3, [_, _, _]⟩ :: [⟨b29, 5, cp29 * 1, List.flatMap cB ((encL (l.take i)) ++ [kb l[i]])⟩])) rfl rfl ⟨lk, lk, lk, lk, lk, trivial⟩) ?_
            refine OD.nil ?_
            refine CD.seq ?_
            refine CD.region ?_
            refine OD.still (wants_plain rfl) rfl (still_as rfl opd_const) ?_
            refine OD.wk (Wk.as_ (n := 72) (l' := [(4, _), (8, _), (9, _), (13, _), (14, _), (15, _)]) (S' := (⟨b6, 30, 3, [_, _, _]⟩ :: [⟨b29, 5, cp29 * 1, List.flatMap cB ((encL (l.take i)) ++ [kb l[i]])⟩])) rfl rfl ⟨lk, lk, lk, lk, lk, lk, trivial⟩) ?_
            refine OD.nil ?_
            refine CD.block ?_
            refine CD.wk (Wk.asS (n := 72) (l' := [(4, .v (.slice ((some ⟨b29, 0, none⟩)) ((encL (l.take i) ++ [kb l[i]]) ++ (be8 (uN l[i])).take (0)).length cp29)), (8, .v (.int .u64 ((uN l[i] : Nat) : Int))), (9, .v (.int .i64 (56 - 8 * ((0) : Int)))), (13, .list 3 (l.flatMap cV) l.length), (14, .v (.int .i64 l.length)), (15, .v (.int .i64 (i : Nat)))]) (S' := (([⟨b29, 5, cp29 * 1, List.flatMap cB ((encL (l.take i)) ++ [kb l[i]])⟩]))) rfl (by repeat (first | exact List.Sublist.refl _ | apply List.Sublist.cons_cons | apply List.Sublist.cons)) ⟨(by (repeat (first | exact look_hit | (apply look_at; focus (first | rfl | (congr 2; omega) | (simp; done) | (apply row_eq; rw [← be_step (by omega)]; simp) | (apply row_eq; simp) | (apply row_eq; simp; done))) | (apply look_miss; focus rfl))); done), (by (repeat (first | exact look_hit | (apply look_at; focus (first | rfl | (congr 2; omega) | (simp; done) | (apply row_eq; rw [← be_step (by omega)]; simp) | (apply row_eq; simp) | (apply row_eq; simp; done))) | (apply look_miss; focus rfl))); done), (by (repeat (first | exact look_hit | (apply look_at; focus (first | rfl | (congr 2; omega) | (simp; done) | (apply row_eq; rw [← be_step (by omega)]; simp) | (apply row_eq; simp) | (apply row_eq; simp; done))) | (apply look_miss; focus rfl))); done), (by (repeat (first | exact look_hit | (apply look_at; focus (first | rfl | (congr 2; omega) | (simp; done) | (apply row_eq; rw [← be_step (by omega)]; simp) | (apply row_eq; simp) | (apply row_eq; simp; done))) | (apply look_miss; focus rfl))); done), (by (repeat (first | exact look_hit | (apply look_at; focus (first | rfl | (congr 2; omega) | (simp; done) | (apply row_eq; rw [← be_step (by omega)]; simp) | (apply row_eq; simp) | (apply row_eq; simp; done))) | (apply look_miss; focus rfl))); done), (by (repeat (first | exact look_hit | (apply look_at; focus (first | rfl | (congr 2; omega) | (simp; done) | (apply row_eq; rw [← be_step (by omega)]; simp) | (apply row_eq; simp) | (apply row_eq; simp; done))) | (apply look_miss; focus rfl))); done), trivial⟩) (CD.loop (fun (gh__ : Nat × Option Addr × Nat × List Blk) y__ => match gh__ with | (k, adb, cpb, Sb) => (k ≤ 8) ∧ (OwnL 5 1 (((encL (l.take i) ++ [kb l[i]]) ++ (be8 (uN l[i])).take k).flatMap cB) ((encL (l.take i) ++ [kb l[i]]) ++ (be8 (uN l[i])).take k).length adb cpb Sb) ∧ y__ = (⟨72, [(4, .v (.slice adb ((encL (l.take i) ++ [kb l[i]]) ++ (be8 (uN l[i])).take k).length cpb)), (8, .v (.int .u64 ((uN l[i] : Nat) : Int))), (9, .v (.int .i64 (56 - 8 * (k : Int)))), (13, .list 3 (l.flatMap cV) l.length), (14, .v (.int .i64 l.length)), (15, .v (.int .i64 (i : Nat)))], (Sb)⟩ : St)) (fun (gh__ : Nat × Option Addr × Nat × List Blk) => match gh__ with | (k, adb, cpb, Sb) => 8 - k) (0, (some ⟨b29, 0, none⟩), cp29, [⟨b29, 5, cp29 * 1, List.flatMap cB ((encL (l.take i)) ++ [kb l[i]])⟩]) ⟨(by decide), (OwnL.cast (ownL_row h129 h229) (by simp)), rfl⟩ ?_)
            rintro ⟨k, adb, cpb, Sb⟩ _ ⟨hk8, hob, rfl⟩
            refine CD.seq ?_
            refine CD.seq ?_
            refine CD.region ?_
            refine OD.still (wants_plain rfl) rfl (still_mv rfl ot) ?_
            refine OD.still (wants_plain rfl) rfl (still_bin rfl ot opd_const bin_geq) ?_
            refine OD.wk (Wk.as_ (n := 72) (l' := [(4, _), (8, _), (9, _), (13, _), (14, _), (15, _), (47, _)]) (S' := (Sb)) rfl rfl ⟨lk, lk, lk, lk, lk, lk, lk, trivial⟩) ?_
            refine OD.nil ?_
            refine CD.cond ot (fun hc5 => ?_) (fun hc5 => ?_)
            · have hc5' := hc5
              (try simp only [decide_eq_true_eq, decide_eq_false_iff_not, beq_iff_eq, bne_iff_ne, Bool.not_eq_true', Bool.not_eq_false', Bool.not_eq_true, Bool.not_eq_false, beq_eq_false_iff_ne, ne_eq, bne_eq_false_iff_eq, Bool.and_eq_true, Bool.or_eq_true, Bool.not_not, Bool.and_eq_false_iff, Bool.or_eq_false_iff, Int.not_lt, Int.not_le] at hc5')
              have hk7 : k ≤ 7 := by omega
              refine CD.skip ?_
              refine CD.seq ?_
              refine CD.block ?_
              refine CD.region ?_
              refine OD.still (wants_plain rfl) rfl (still_mv rfl ot) ?_
              refine OD.still (wants_plain rfl) rfl (still_mv rfl ot) ?_
              refine OD.still (wants_plain rfl) rfl (still_mv rfl ot) ?_
              refine OD.still (wants_plain rfl) rfl (still_bin (r := .int .u64 ((uN l[i] / 256 ^ (7 - k) : Nat) : Int)) rfl ot ot (bin_shr (by omega) (shr_at hk7))) ?_
              refine OD.still (wants_plain rfl) rfl (still_conv (r := .int .u8 ((beAt (uN l[i]) k).toNat : Int)) rfl ot (conv_int Tryd.runUnderlying68 Tryd.runUnderlying5 (u8_wrap _))) ?_
              refine OD.bldS (pl := [(0, _)]) (zvs := [.int .u8 0]) (ds := [_]) (wants_plain rfl) rfl rfl Tryd.zeroValue5 Tryd.runUnderlying25 Tryd.sizeOf5 rfl rfl (by kernel_rfl) ⟨rfl, ot, trivial⟩ rfl rfl (fun b55 => ?_)
              refine OD.give (k := 0) (t := 55) (sz := 1) (m := 1) rfl lk rfl rfl rfl (Nat.le_refl _) (by decide) ?_
              refine OD.appendG (ls := ((encL (l.take i) ++ [kb l[i]]) ++ (be8 (uN l[i])).take k)) (new := [beAt (uN l[i]) k]) (Sq := Sb) cB_len cB_one (wants_plain rfl) rfl rfl Tryd.underlying25 info5_Cd1 rfl (by decide) ot hob (perm_r11 (A := [])) ot (by simp) (by have hmx : maxLen = 9223372036854775807 := rfl; (try simp only [List.length_append, List.length_cons, List.length_nil, List.length_take, be_len]); omega) (by have hmx : maxLen = 9223372036854775807 := rfl; (try simp only [List.length_append, List.length_cons, List.length_nil, List.length_take, be_len]); omega) (fun b56 cp56 h156 h256 => ?_)
              refine OD.perm (perm_q11 (S1 := [⟨b56, 5, cp56 * 1, List.flatMap cB (((encL (l.take i) ++ [kb l[i]]) ++ (be8 (uN l[i])).take k) ++ [beAt (uN l[i]) k])⟩]) (A := [])) ?_
              refine OD.still (wants_plain rfl) rfl (still_as rfl ot) ?_
              refine OD.wk (Wk.as_ (n := 72) (l' := [(4, _), (8, _), (9, _), (13, _), (14, _), (15, _)]) (S' := ([⟨b56, 5, cp56 * 1, List.flatMap cB (((encL (l.take i) ++ [kb l[i]]) ++ (be8 (uN l[i])).take k) ++ [beAt (uN l[i]) k])⟩])) rfl rfl ⟨lk, lk, lk, lk, lk, lk, trivial⟩) ?_
              refine OD.nil ?_
              refine CD.region ?_
              refine OD.still (wants_plain rfl) rfl (still_mv rfl ot) ?_
              refine OD.still (wants_plain rfl) rfl (still_bin rfl ot opd_const (bin_sub (wrap_i64 (by omega) (by omega)))) ?_
              refine OD.still (wants_plain rfl) rfl (still_as rfl ot) ?_
              refine OD.wk (Wk.as_ (n := 72) (l' := [(4, _), (8, _), (9, _), (13, _), (14, _), (15, _)]) (S' := ([⟨b56, 5, cp56 * 1, List.flatMap cB (((encL (l.take i) ++ [kb l[i]]) ++ (be8 (uN l[i])).take k) ++ [beAt (uN l[i]) k])⟩])) rfl rfl ⟨lk, lk, lk, lk, lk, lk, trivial⟩) ?_
              refine OD.nil ?_
              refine ⟨((k + 1), (some ⟨b56, 0, none⟩), cp56, [⟨b56, 5, cp56 * 1, List.flatMap cB (((encL (l.take i) ++ [kb l[i]]) ++ (be8 (uN l[i])).take k) ++ [beAt (uN l[i]) k])⟩]), ⟨72, [(4, .v (.slice ((some ⟨b56, 0, none⟩)) ((encL (l.take i) ++ [kb l[i]]) ++ (be8 (uN l[i])).take ((k + 1))).length cp56)), (8, .v (.int .u64 ((uN l[i] : Nat) : Int))), (9, .v (.int .i64 (56 - 8 * (((k + 1)) : Int)))), (13, .list 3 (l.flatMap cV) l.length), (14, .v (.int .i64 l.length)), (15, .v (.int .i64 (i : Nat)))], (([⟨b56, 5, cp56 * 1, List.flatMap cB (((encL (l.take i) ++ [kb l[i]]) ++ (be8 (uN l[i])).take k) ++ [beAt (uN l[i]) k])⟩]))⟩, ?_, Wk.asS (n := 72) rfl (by repeat (first | exact List.Sublist.refl _ | apply List.Sublist.cons_cons | apply List.Sublist.cons)) ⟨(by (repeat (first | exact look_hit | (apply look_at; focus (first | rfl | (congr 2; omega) | (simp; done) | (apply row_eq; rw [← be_step (by omega)]; simp) | (apply row_eq; simp) | (apply row_eq; simp; done))) | (apply look_miss; focus rfl))); done), (by (repeat (first | exact look_hit | (apply look_at; focus (first | rfl | (congr 2; omega) | (simp; done) | (apply row_eq; rw [← be_step (by omega)]; simp) | (apply row_eq; simp) | (apply row_eq; simp; done))) | (apply look_miss; focus rfl))); done), (by (repeat (first | exact look_hit | (apply look_at; focus (first | rfl | (congr 2; omega) | (simp; done) | (apply row_eq; rw [← be_step (by omega)]; simp) | (apply row_eq; simp) | (apply row_eq; simp; done))) | (apply look_miss; focus rfl))); done), (by (repeat (first | exact look_hit | (apply look_at; focus (first | rfl | (congr 2; omega) | (simp; done) | (apply row_eq; rw [← be_step (by omega)]; simp) | (apply row_eq; simp) | (apply row_eq; simp; done))) | (apply look_miss; focus rfl))); done), (by (repeat (first | exact look_hit | (apply look_at; focus (first | rfl | (congr 2; omega) | (simp; done) | (apply row_eq; rw [← be_step (by omega)]; simp) | (apply row_eq; simp) | (apply row_eq; simp; done))) | (apply look_miss; focus rfl))); done), (by (repeat (first | exact look_hit | (apply look_at; focus (first | rfl | (congr 2; omega) | (simp; done) | (apply row_eq; rw [← be_step (by omega)]; simp) | (apply row_eq; simp) | (apply row_eq; simp; done))) | (apply look_miss; focus rfl))); done), trivial⟩, (by omega), (OwnL.cast (ownL_row h156 h256) (by rw [← be_step (by omega)]; simp)), rfl⟩
              first | omega | (simp only []; omega)
            · have hc5' := hc5
              (try simp only [decide_eq_true_eq, decide_eq_false_iff_not, beq_iff_eq, bne_iff_ne, Bool.not_eq_true', Bool.not_eq_false', Bool.not_eq_true, Bool.not_eq_false, beq_eq_false_iff_ne, ne_eq, bne_eq_false_iff_eq, Bool.and_eq_true, Bool.or_eq_true, Bool.not_not, Bool.and_eq_false_iff, Bool.or_eq_false_iff, Int.not_lt, Int.not_le] at hc5')
              have hk88 : k = 8 := by omega
              have hk8n : 8 ≤ k := by omega
              refine CD.exit ?_
              refine CD.region ?_
              refine OD.still (wants_plain rfl) rfl (still_bin rfl ot opd_const (bin_add (wrap_i64 (by omega) (by omega)))) ?_
              refine OD.still (wants_plain rfl) rfl (still_mv rfl ot) ?_
              refine OD.wk (Wk.as_ (n := 72) (l' := [(4, _), (13, _), (14, _), (15, _)]) (S' := (Sb)) rfl rfl ⟨lk, lk, lk, lk, trivial⟩) ?_
              refine OD.nil ?_
              refine ⟨((i + 1), adb, cpb, Sb), ⟨72, [(4, .v (.slice adb (encL (l.take ((i + 1)))).length cpb)), (13, .list 3 (l.flatMap cV) l.length), (14, .v (.int .i64 l.length)), (15, .v (.int .i64 (((i + 1)) : Nat)))], (Sb)⟩, ?_, Wk.asS (n := 72) rfl (by repeat (first | exact List.Sublist.refl _ | apply List.Sublist.cons_cons | apply List.Sublist.cons)) ⟨(by (repeat (first | exact look_hit | (apply look_at; focus (first | rfl | (simp; done) | (congr 2; omega) | (apply row_eq; rw [← encL_step hlt]; unfold encV; first | (rw [pay_1 (by assumption)]; simp; done) | (rw [pay_2 (by assumption), List.take_of_length_le (l := be8 (uN l[i])) (by rw [be_len]; omega)]; simp; done) | (rw [pay_3 (by assumption), ← esc_repl]; simp; done) | (rw [pay_0 (by assumption) (by assumption) (by assumption)]; done)) | (apply row_eq; rfl) | (apply row_eq; simp; done))) | (apply look_miss; focus rfl))); done), (by (repeat (first | exact look_hit | (apply look_at; focus (first | rfl | (simp; done) | (congr 2; omega) | (apply row_eq; rw [← encL_step hlt]; unfold encV; first | (rw [pay_1 (by assumption)]; simp; done) | (rw [pay_2 (by assumption), List.take_of_length_le (l := be8 (uN l[i])) (by rw [be_len]; omega)]; simp; done) | (rw [pay_3 (by assumption), ← esc_repl]; simp; done) | (rw [pay_0 (by assumption) (by assumption) (by assumption)]; done)) | (apply row_eq; rfl) | (apply row_eq; simp; done))) | (apply look_miss; focus rfl))); done), (by (repeat (first | exact look_hit | (apply look_at; focus (first | rfl | (simp; done) | (congr 2; omega) | (apply row_eq; rw [← encL_step hlt]; unfold encV; first | (rw [pay_1 (by assumption)]; simp; done) | (rw [pay_2 (by assumption), List.take_of_length_le (l := be8 (uN l[i])) (by rw [be_len]; omega)]; simp; done) | (rw [pay_3 (by assumption), ← esc_repl]; simp; done) | (rw [pay_0 (by assumption) (by assumption) (by assumption)]; done)) | (apply row_eq; rfl) | (apply row_eq; simp; done))) | (apply look_miss; focus rfl))); done), (by (repeat (first | exact look_hit | (apply look_at; focus (first | rfl | (simp; done) | (congr 2; omega) | (apply row_eq; rw [← encL_step hlt]; unfold encV; first | (rw [pay_1 (by assumption)]; simp; done) | (rw [pay_2 (by assumption), List.take_of_length_le (l := be8 (uN l[i])) (by rw [be_len]; omega)]; simp; done) | (rw [pay_3 (by assumption), ← esc_repl]; simp; done) | (rw [pay_0 (by assumption) (by assumption) (by assumption)]; done)) | (apply row_eq; rfl) | (apply row_eq; simp; done))) | (apply look_miss; focus rfl))); done), trivial⟩, (by omega), (all_step hlt h0 hchk), (OwnL.cast hob (by rw [← encL_step hlt]; unfold encV; first | (rw [pay_1 (by assumption)]; simp; done) | (rw [pay_2 (by assumption), List.take_of_length_le (l := be8 (uN l[i])) (by rw [be_len]; omega)]; simp; done) | (rw [pay_3 (by assumption), ← esc_repl]; simp; done) | (rw [pay_0 (by assumption) (by assumption) (by assumption)]; done))), rfl⟩
              first | omega | (simp only []; omega)
          · have hc4' := hc4
            (try simp only [decide_eq_true_eq, decide_eq_false_iff_not, beq_iff_eq, bne_iff_ne, Bool.not_eq_true', Bool.not_eq_false', Bool.not_eq_true, Bool.not_eq_false, beq_eq_false_iff_ne, ne_eq, bne_eq_false_iff_eq, Bool.and_eq_true, Bool.or_eq_true, Bool.not_not, Bool.and_eq_false_iff, Bool.or_eq_false_iff, Int.not_lt, Int.not_le] at hc4')
            have hk2 : ¬ l[i].k = 2 := by simpa using hc4
            refine CD.seq ?_
            refine CD.region ?_
            refine OD.still (wants_plain rfl) rfl (still_bin rfl ot opd_const bin_eql) ?_
            refine OD.still (wants_plain rfl) rfl (still_as rfl ot) ?_
            refine OD.wk (Wk.as_ (n := 72) (l' := [(4, _), (6, _), (13, _), (14, _), (15, _), (57, _)]) (S' := (⟨b6, 30, 3, [_, _, _]⟩ :: [⟨b29, 5, cp29 * 1, List.flatMap cB ((encL (l.take i)) ++ [kb l[i]])⟩])) rfl rfl ⟨lk, lk, lk, lk, lk, lk, trivial⟩) ?_
            refine OD.nil ?_
            refine CD.cond ot (fun hc6 => ?_) (fun hc6 => ?_)
            · have hc6' := hc6
              (try simp only [decide_eq_true_eq, decide_eq_false_iff_not, beq_iff_eq, bne_iff_ne, Bool.not_eq_true', Bool.not_eq_false', Bool.not_eq_true, Bool.not_eq_false, beq_eq_false_iff_ne, ne_eq, bne_eq_false_iff_eq, Bool.and_eq_true, Bool.or_eq_true, Bool.not_not, Bool.and_eq_false_iff, Bool.or_eq_false_iff, Int.not_lt, Int.not_le] at hc6')
              have hk3 : l[i].k = 3 := by simpa using hc6
              have hts := check_text hchk hk3
              have hel := esc_len l[i].s.data.toList
              rw [str_len] at hel
              have hrs : (replS 0 [0, 255] l[i].s).size = (escL l[i].s.data.toList).length := by rw [← str_len, esc_repl]
              refine CD.seq ?_
              refine CD.region ?_
              refine OD.still (wants_plain rfl) rfl (still_mv rfl ot) ?_
              refine OD.still (wants_plain rfl) rfl (still_r1 (mk := fun y => Op.fieldAddr 30 y 2) rfl ot (by first | exact fa_ptr (off := 2) Tryd.runUnderlying30 rfl Tryd.sizeOf9 rfl | exact fa_iptr (off := 2) Tryd.runUnderlying30 rfl Tryd.sizeOf9 rfl)) ?_
              refine OD.still (wants_plain rfl) rfl (still_r1 (mk := Op.load 9) rfl ot (by first | exact ld_blk (k := 0) rfl rfl Tryd.isAgg9 rfl | exact ld_fm cV_len Tryd.isAgg9 (by first | assumption | omega) rfl | exact ld_fm0 cV_len Tryd.isAgg9 (by first | assumption | omega) rfl | exact ld_row (k := 0) cV_len rfl rfl rfl Tryd.isAgg9 (by first | assumption | omega) rfl | exact ld_row0 (k := 0) cV_len rfl rfl rfl Tryd.isAgg9 (by first | assumption | omega) rfl | exact ld_i Tryd.isAgg9 rfl)) ?_
              refine OD.callP (wants_plain rfl) rfl rfl rfl Tryd.call30 (repl_vp hG 0 ⟨#[0, 255]⟩ l[i].s (by omega) (by decide)) ⟨ot, opd_const, opd_const, trivial⟩ ?_
              refine OD.appendStrB (ls := ((encL (l.take i)) ++ [kb l[i]])) (Sq := [⟨b29, 5, cp29 * 1, List.flatMap cB ((encL (l.take i)) ++ [kb l[i]])⟩]) (wants_plain rfl) rfl rfl Tryd.underlying25 Tryd.underlying9 info5_Cd1 ot (ownL_row h129 h229) (perm_r11 (A := [_])) ot (by rw [show (replS 0 (⟨#[0, 255]⟩ : ByteArray).data.toList l[i].s).size = (escL l[i].s.data.toList).length from hrs]; simp only [List.length_append, List.length_cons, List.length_nil]; omega) (by rw [show (replS 0 (⟨#[0, 255]⟩ : ByteArray).data.toList l[i].s).size = (escL l[i].s.data.toList).length from hrs]; simp only [List.length_append, List.length_cons, List.length_nil]; omega) (fun ad63 cp63 S63 ho63 => ?_)
              refine OD.perm (perm_q11 (A := [_])) ?_
              refine OD.still (wants_plain rfl) rfl (still_as rfl ot) ?_
              refine OD.wk (Wk.as_ (n := 72) (l' := [(4, _), (13, _), (14, _), (15, _)]) (S' := (⟨b6, 30, 3, [_, _, _]⟩ :: S63)) rfl rfl ⟨lk, lk, lk, lk, trivial⟩) ?_
              refine OD.nil ?_
              refine CD.region ?_
              refine OD.still (wants_plain rfl) rfl (still_mv rfl ot) ?_
              refine OD.bldS (pl := [(0, _), (1, _)]) (zvs := [.int .u8 0, .int .u8 0]) (ds := [_, _]) (wants_plain rfl) rfl rfl Tryd.zeroValue5 Tryd.runUnderlying25 Tryd.sizeOf5 rfl rfl (by kernel_rfl) ⟨rfl, opd_const, rfl, opd_const, trivial⟩ rfl rfl (fun b65 => ?_)
              refine OD.give (k := 0) (t := 65) (sz := 1) (m := 2) rfl lk rfl rfl rfl (Nat.le_refl _) (by decide) ?_
              refine OD.appendG (ls := (((encL (l.take i)) ++ [kb l[i]]) ++ (replS 0 [0, 255] l[i].s).data.toList)) (new := [(0 : UInt8), 0]) (Sq := S63) cB_len cB_one (wants_plain rfl) rfl rfl Tryd.underlying25 info5_Cd1 rfl (by decide) ot ho63 (perm_r11 (A := [_])) ot (by simp) (by rw [esc_repl]; simp only [List.length_append, List.length_cons, List.length_nil]; omega) (by rw [esc_repl]; simp only [List.length_append, List.length_cons, List.length_nil]; omega) (fun b66 cp66 h166 h266 => ?_)
              refine OD.perm (perm_q11 (S1 := [⟨b66, 5, cp66 * 1, List.flatMap cB ((((encL (l.take i)) ++ [kb l[i]]) ++ (replS 0 [0, 255] l[i].s).data.toList) ++ [(0 : UInt8), 0])⟩]) (A := [_])) ?_
              refine OD.still (wants_plain rfl) rfl (still_as rfl ot) ?_
              refine OD.wk (Wk.as_ (n := 72) (l' := [(4, _), (13, _), (14, _), (15, _)]) (S' := (⟨b6, 30, 3, [_, _, _]⟩ :: [⟨b66, 5, cp66 * 1, List.flatMap cB ((((encL (l.take i)) ++ [kb l[i]]) ++ (replS 0 [0, 255] l[i].s).data.toList) ++ [(0 : UInt8), 0])⟩])) rfl rfl ⟨lk, lk, lk, lk, trivial⟩) ?_
              refine OD.nil ?_
              refine CD.region ?_
              refine OD.still (wants_plain rfl) rfl (still_bin rfl ot opd_const (bin_add (wrap_i64 (by omega) (by omega)))) ?_
              refine OD.still (wants_plain rfl) rfl (still_mv rfl ot) ?_
              refine OD.wk (Wk.as_ (n := 72) (l' := [(4, _), (13, _), (14, _), (15, _)]) (S' := (⟨b6, 30, 3, [_, _, _]⟩ :: [⟨b66, 5, cp66 * 1, List.flatMap cB ((((encL (l.take i)) ++ [kb l[i]]) ++ (replS 0 [0, 255] l[i].s).data.toList) ++ [(0 : UInt8), 0])⟩])) rfl rfl ⟨lk, lk, lk, lk, trivial⟩) ?_
              refine OD.nil ?_
              refine ⟨((i + 1), (some ⟨b66, 0, none⟩), cp66, [⟨b66, 5, cp66 * 1, List.flatMap cB ((((encL (l.take i)) ++ [kb l[i]]) ++ (replS 0 [0, 255] l[i].s).data.toList) ++ [(0 : UInt8), 0])⟩]), ⟨72, [(4, .v (.slice ((some ⟨b66, 0, none⟩)) (encL (l.take ((i + 1)))).length cp66)), (13, .list 3 (l.flatMap cV) l.length), (14, .v (.int .i64 l.length)), (15, .v (.int .i64 (((i + 1)) : Nat)))], (([⟨b66, 5, cp66 * 1, List.flatMap cB ((((encL (l.take i)) ++ [kb l[i]]) ++ (replS 0 [0, 255] l[i].s).data.toList) ++ [(0 : UInt8), 0])⟩]))⟩, ?_, Wk.asS (n := 72) rfl (by repeat (first | exact List.Sublist.refl _ | apply List.Sublist.cons_cons | apply List.Sublist.cons)) ⟨(by (repeat (first | exact look_hit | (apply look_at; focus (first | rfl | (simp; done) | (congr 2; omega) | (apply row_eq; rw [← encL_step hlt]; unfold encV; first | (rw [pay_1 (by assumption)]; simp; done) | (rw [pay_2 (by assumption), List.take_of_length_le (l := be8 (uN l[i])) (by rw [be_len]; omega)]; simp; done) | (rw [pay_3 (by assumption), ← esc_repl]; simp; done) | (rw [pay_0 (by assumption) (by assumption) (by assumption)]; done)) | (apply row_eq; rfl) | (apply row_eq; simp; done))) | (apply look_miss; focus rfl))); done), (by (repeat (first | exact look_hit | (apply look_at; focus (first | rfl | (simp; done) | (congr 2; omega) | (apply row_eq; rw [← encL_step hlt]; unfold encV; first | (rw [pay_1 (by assumption)]; simp; done) | (rw [pay_2 (by assumption), List.take_of_length_le (l := be8 (uN l[i])) (by rw [be_len]; omega)]; simp; done) | (rw [pay_3 (by assumption), ← esc_repl]; simp; done) | (rw [pay_0 (by assumption) (by assumption) (by assumption)]; done)) | (apply row_eq; rfl) | (apply row_eq; simp; done))) | (apply look_miss; focus rfl))); done), (by (repeat (first | exact look_hit | (apply look_at; focus (first | rfl | (simp; done) | (congr 2; omega) | (apply row_eq; rw [← encL_step hlt]; unfold encV; first | (rw [pay_1 (by assumption)]; simp; done) | (rw [pay_2 (by assumption), List.take_of_length_le (l := be8 (uN l[i])) (by rw [be_len]; omega)]; simp; done) | (rw [pay_3 (by assumption), ← esc_repl]; simp; done) | (rw [pay_0 (by assumption) (by assumption) (by assumption)]; done)) | (apply row_eq; rfl) | (apply row_eq; simp; done))) | (apply look_miss; focus rfl))); done), (by (repeat (first | exact look_hit | (apply look_at; focus (first | rfl | (simp; done) | (congr 2; omega) | (apply row_eq; rw [← encL_step hlt]; unfold encV; first | (rw [pay_1 (by assumption)]; simp; done) | (rw [pay_2 (by assumption), List.take_of_length_le (l := be8 (uN l[i])) (by rw [be_len]; omega)]; simp; done) | (rw [pay_3 (by assumption), ← esc_repl]; simp; done) | (rw [pay_0 (by assumption) (by assumption) (by assumption)]; done)) | (apply row_eq; rfl) | (apply row_eq; simp; done))) | (apply look_miss; focus rfl))); done), trivial⟩, (by omega), (all_step hlt h0 hchk), (OwnL.cast (ownL_row h166 h266) (by rw [← encL_step hlt]; unfold encV; first | (rw [pay_1 (by assumption)]; simp; done) | (rw [pay_2 (by assumption), List.take_of_length_le (l := be8 (uN l[i])) (by rw [be_len]; omega)]; simp; done) | (rw [pay_3 (by assumption), ← esc_repl]; simp; done) | (rw [pay_0 (by assumption) (by assumption) (by assumption)]; done))), rfl⟩
              first | omega | (simp only []; omega)
            · have hc6' := hc6
              (try simp only [decide_eq_true_eq, decide_eq_false_iff_not, beq_iff_eq, bne_iff_ne, Bool.not_eq_true', Bool.not_eq_false', Bool.not_eq_true, Bool.not_eq_false, beq_eq_false_iff_ne, ne_eq, bne_eq_false_iff_eq, Bool.and_eq_true, Bool.or_eq_true, Bool.not_not, Bool.and_eq_false_iff, Bool.or_eq_false_iff, Int.not_lt, Int.not_le] at hc6')
              have hk3 : ¬ l[i].k = 3 := by simpa using hc6
              refine CD.skip ?_
              refine CD.region ?_
              refine OD.still (wants_plain rfl) rfl (still_bin rfl ot opd_const (bin_add (wrap_i64 (by omega) (by omega)))) ?_
              refine OD.still (wants_plain rfl) rfl (still_mv rfl ot) ?_
              refine OD.wk (Wk.as_ (n := 72) (l' := [(4, _), (13, _), (14, _), (15, _)]) (S' := (⟨b6, 30, 3, [_, _, _]⟩ :: [⟨b29, 5, cp29 * 1, List.flatMap cB ((encL (l.take i)) ++ [kb l[i]])⟩])) rfl rfl ⟨lk, lk, lk, lk, trivial⟩) ?_
              refine OD.nil ?_
              refine ⟨((i + 1), (some ⟨b29, 0, none⟩), cp29, [⟨b29, 5, cp29 * 1, List.flatMap cB ((encL (l.take i)) ++ [kb l[i]])⟩]), ⟨72, [(4, .v (.slice ((some ⟨b29, 0, none⟩)) (encL (l.take ((i + 1)))).length cp29)), (13, .list 3 (l.flatMap cV) l.length), (14, .v (.int .i64 l.length)), (15, .v (.int .i64 (((i + 1)) : Nat)))], (([⟨b29, 5, cp29 * 1, List.flatMap cB ((encL (l.take i)) ++ [kb l[i]])⟩]))⟩, ?_, Wk.asS (n := 72) rfl (by repeat (first | exact List.Sublist.refl _ | apply List.Sublist.cons_cons | apply List.Sublist.cons)) ⟨(by (repeat (first | exact look_hit | (apply look_at; focus (first | rfl | (simp; done) | (congr 2; omega) | (apply row_eq; rw [← encL_step hlt]; unfold encV; first | (rw [pay_1 (by assumption)]; simp; done) | (rw [pay_2 (by assumption), List.take_of_length_le (l := be8 (uN l[i])) (by rw [be_len]; omega)]; simp; done) | (rw [pay_3 (by assumption), ← esc_repl]; simp; done) | (rw [pay_0 (by assumption) (by assumption) (by assumption)]; done)) | (apply row_eq; rfl) | (apply row_eq; simp; done))) | (apply look_miss; focus rfl))); done), (by (repeat (first | exact look_hit | (apply look_at; focus (first | rfl | (simp; done) | (congr 2; omega) | (apply row_eq; rw [← encL_step hlt]; unfold encV; first | (rw [pay_1 (by assumption)]; simp; done) | (rw [pay_2 (by assumption), List.take_of_length_le (l := be8 (uN l[i])) (by rw [be_len]; omega)]; simp; done) | (rw [pay_3 (by assumption), ← esc_repl]; simp; done) | (rw [pay_0 (by assumption) (by assumption) (by assumption)]; done)) | (apply row_eq; rfl) | (apply row_eq; simp; done))) | (apply look_miss; focus rfl))); done), (by (repeat (first | exact look_hit | (apply look_at; focus (first | rfl | (simp; done) | (congr 2; omega) | (apply row_eq; rw [← encL_step hlt]; unfold encV; first | (rw [pay_1 (by assumption)]; simp; done) | (rw [pay_2 (by assumption), List.take_of_length_le (l := be8 (uN l[i])) (by rw [be_len]; omega)]; simp; done) | (rw [pay_3 (by assumption), ← esc_repl]; simp; done) | (rw [pay_0 (by assumption) (by assumption) (by assumption)]; done)) | (apply row_eq; rfl) | (apply row_eq; simp; done))) | (apply look_miss; focus rfl))); done), (by (repeat (first | exact look_hit | (apply look_at; focus (first | rfl | (simp; done) | (congr 2; omega) | (apply row_eq; rw [← encL_step hlt]; unfold encV; first | (rw [pay_1 (by assumption)]; simp; done) | (rw [pay_2 (by assumption), List.take_of_length_le (l := be8 (uN l[i])) (by rw [be_len]; omega)]; simp; done) | (rw [pay_3 (by assumption), ← esc_repl]; simp; done) | (rw [pay_0 (by assumption) (by assumption) (by assumption)]; done)) | (apply row_eq; rfl) | (apply row_eq; simp; done))) | (apply look_miss; focus rfl))); done), trivial⟩, (by omega), (all_step hlt h0 hchk), (OwnL.cast (ownL_row h129 h229) (by rw [← encL_step hlt]; unfold encV; first | (rw [pay_1 (by assumption)]; simp; done) | (rw [pay_2 (by assumption), List.take_of_length_le (l := be8 (uN l[i])) (by rw [be_len]; omega)]; simp; done) | (rw [pay_3 (by assumption), ← esc_repl]; simp; done) | (rw [pay_0 (by assumption) (by assumption) (by assumption)]; done))), rfl⟩
              first | omega | (simp only []; omega)
    · have hc1' := hc1
      (try simp only [decide_eq_true_eq, decide_eq_false_iff_not, beq_iff_eq, bne_iff_ne, Bool.not_eq_true', Bool.not_eq_false', Bool.not_eq_true, Bool.not_eq_false, beq_eq_false_iff_ne, ne_eq, bne_eq_false_iff_eq, Bool.and_eq_true, Bool.or_eq_true, Bool.not_not, Bool.and_eq_false_iff, Bool.or_eq_false_iff, Int.not_lt, Int.not_le] at hc1')
      have hall : ∀ v ∈ l, checkV v = 0 := by rw [List.take_of_length_le (by omega)] at h0; exact h0
      have hle := encL_len hall
      have htk : encL (l.take i) = encL l := by rw [List.take_of_length_le (by omega)]
      refine CD.exit ?_
      refine CD.seq ?_
      refine CD.seq ?_
      refine CD.region ?_
      refine OD.still (wants_plain rfl) rfl (still_mv rfl ot) ?_
      refine OD.still (wants_plain rfl) rfl (still_r1 (mk := fun y => .call { callee := .builtin .len, args := #[y], argTypes := #[25] }) rfl ot (by first | exact len_list rfl Tryd.runUnderlying25 | exact len_row rfl Tryd.runUnderlying25)) ?_
      refine OD.still (wants_plain rfl) rfl (still_bin rfl ot opd_const bin_gtr) ?_
      refine OD.wk (Wk.as_ (n := 72) (l' := [(4, _), (70, _)]) (S' := (Sb)) rfl rfl ⟨lk, lk, trivial⟩) ?_
      refine OD.nil ?_
      refine CD.cond ot (fun hc7 => ?_) (fun hc7 => ?_)
      · have hc7' := hc7
        (try simp only [decide_eq_true_eq, decide_eq_false_iff_not, beq_iff_eq, bne_iff_ne, Bool.not_eq_true', Bool.not_eq_false', Bool.not_eq_true, Bool.not_eq_false, beq_eq_false_iff_ne, ne_eq, bne_eq_false_iff_eq, Bool.and_eq_true, Bool.or_eq_true, Bool.not_not, Bool.and_eq_false_iff, Bool.or_eq_false_iff, Int.not_lt, Int.not_le] at hc7')
        have hres : encR l = ([], 5) := by unfold encR; rw [if_neg (by omega), errV_ok hall, if_neg (by simp), if_pos (by rw [htk] at hc7; simp at hc7; omega)]
        refine CD.seq ?_
        refine CD.region ?_
        refine OD.still (wants_plain rfl) rfl (still_as rfl opd_const) ?_
        refine OD.still (wants_plain rfl) rfl (still_as rfl opd_const) ?_
        refine OD.wk (Wk.as_ (n := 72) (l' := [(2, _), (3, _)]) (S' := (Sb)) rfl rfl ⟨lk, lk, trivial⟩) ?_
        refine OD.nil ?_
        refine CD.wk (Wk.giveNil (t := 2) (sz := 1) lk) ?_
        refine CD.ret ?_
        refine ⟨.inr rfl, _, [], List.nil_sublist _, ret_two Tryd.results14 (res_tmp (Nat.le_of_ble_eq_true rfl) lk) (res_tmp (Nat.le_of_ble_eq_true rfl) lk), ?_⟩
        first | (rw [hres]; exact ⟨rfl, rfl⟩) | (rw [hres, ← htk]; exact ⟨rfl, rfl⟩)
      · have hc7' := hc7
        (try simp only [decide_eq_true_eq, decide_eq_false_iff_not, beq_iff_eq, bne_iff_ne, Bool.not_eq_true', Bool.not_eq_false', Bool.not_eq_true, Bool.not_eq_false, beq_eq_false_iff_ne, ne_eq, bne_eq_false_iff_eq, Bool.and_eq_true, Bool.or_eq_true, Bool.not_not, Bool.and_eq_false_iff, Bool.or_eq_false_iff, Int.not_lt, Int.not_le] at hc7')
        have hres : encR l = (encL l, 0) := by unfold encR; rw [if_neg (by omega), errV_ok hall, if_neg (by simp), if_neg (by rw [htk] at hc7; simp at hc7; omega)]
        refine CD.skip ?_
        refine CD.seq ?_
        refine CD.region ?_
        refine OD.still (wants_plain rfl) rfl (still_mv rfl ot) ?_
        refine OD.still (wants_plain rfl) rfl (still_as rfl ot) ?_
        refine OD.still (wants_plain rfl) rfl (still_as rfl opd_const) ?_
        refine OD.wk (Wk.as_ (n := 72) (l' := [(2, _), (3, _)]) (S' := (Sb)) rfl rfl ⟨lk, lk, trivial⟩) ?_
        refine OD.nil ?_
        refine CD.giveL (t := 2) (Sq := Sb) lk hob (fm_len cB_len _) (perm_r11 (A := [])) ?_
        refine CD.ret ?_
        refine ⟨.inr rfl, _, [], List.nil_sublist _, ret_two Tryd.results14 (res_tmp (Nat.le_of_ble_eq_true rfl) lk) (res_tmp (Nat.le_of_ble_eq_true rfl) lk), ?_⟩
        first | (rw [hres]; exact ⟨rfl, rfl⟩) | (rw [hres, ← htk]; exact ⟨rfl, rfl⟩)

end Go.Proofs.YtoemmoeedhllfaaDoor.Cd

namespace Go.Proofs.YtoemmoeedhllfaaDoor.Cd
end Go.Proofs.YtoemmoeedhllfaaDoor.Cd


namespace Go.Proofs.YtoemmoeedhllfaaDoor.Cd
open Go.RowKit V Pk Vl
set_option linter.unusedVariables false
set_option linter.unusedSimpArgs false

theorem encL_cons (v : Vl) (l : List Vl) : encL (v :: l) = encV v ++ encL l := by unfold encL; rw [List.flatMap_cons]
/-! ### The values that the statements make -/
end Go.Proofs.YtoemmoeedhllfaaDoor.Cd

namespace Go.Proofs.YtoemmoeedhllfaaDoor.V
open Go.RowKit
set_option linter.unusedVariables false

variable {H : Type} {enc : TypeId × Value → H} {P : Program} {w : World} {base : Nat} {sp : Nat → Bool} {held : Bool}

/-- The same as Rds, read no deeper than so. -/
def RdsF (fuel : Nat) (enc : TypeId × Value → H) (P : Program) (w : World) (base : Nat) (sp : Nat → Bool) (held : Bool) (t : TypeId) {α : Type} (g : α → List D) (ok : α → Prop) : Prop :=
  ∀ cs x, DataW.trod enc P w base sp held fuel t cs = some x → ∃ a, RepL w (fun _ => False) (g a) cs ∧ ok a

theorem Rds.at {t : TypeId} {α : Type} {g : α → List D} {ok : α → Prop} (h : Rds enc P w base sp held t g ok) (n : Nat) : RdsF n enc P w base sp held t g ok := h n

end Go.Proofs.YtoemmoeedhllfaaDoor.V

namespace Go.Proofs.YtoemmoeedhllfaaDoor.Cd
open Go.RowKit V Pk Vl
set_option linter.unusedVariables false
set_option linter.unusedSimpArgs false

variable {G : List (Nat × List Value)} {m : Int}
set_option maxRecDepth 100000
theorem len_var {W : World} (hS : W.ShapedOpen Tryd.prog) : ∃ m, Tab.TabAt W 3 [Value.int .i64 m] := by
  obtain ⟨m, hm⟩ := Tryd.laysM155.s1_3 W hS
  exact ⟨m, fun k v hk => by
    match k, hk with
    | 0, hk => cases hk; exact hm⟩
end Go.Proofs.YtoemmoeedhllfaaDoor.Cd

namespace Go.Proofs.YtoemmoeedhllfaaDoor.Cd
open Go.RowKit V Pk Vl
set_option linter.unusedVariables false
set_option linter.unusedSimpArgs false

variable {G : List (Nat × List Value)} {m : Int}
theorem maxlen_le : 100 ≤ maxLen := by decide
end Go.Proofs.YtoemmoeedhllfaaDoor.Cd

namespace Go.Proofs.YtoemmoeedhllfaaDoor.Cd
open Go.RowKit V Pk Vl
set_option linter.unusedVariables false
set_option linter.unusedSimpArgs false

variable {G : List (Nat × List Value)} {m : Int}
/-- A row of letters, as it is filled. -/
def fillL (n i : Nat) : List UInt8 := List.replicate i 97 ++ List.replicate (n - i) 0
theorem fill_len {n i : Nat} (h : i ≤ n) : (fillL n i).length = n := by unfold fillL; rw [List.length_append, List.length_replicate, List.length_replicate]; omega
theorem fill_step {n i : Nat} (h : i < n) : (fillL n i).set i 97 = fillL n (i + 1) := by
  unfold fillL
  rw [List.set_append_right _ _ (by simp), List.length_replicate, Nat.sub_self, show n - i = (n - (i + 1)) + 1 by omega, List.replicate_succ, List.set_cons_zero, List.replicate_succ' (n := i), List.append_assoc]
  rfl
theorem fill_end (n : Nat) : fillL n n = List.replicate n 97 := by unfold fillL; rw [Nat.sub_self]; simp
def longV (n : Nat) : Vl := ⟨3, 0, ⟨(List.replicate n 97).toArray⟩⟩
theorem long_size (n : Nat) : (longV n).s.size = n := by show (⟨(List.replicate n 97).toArray⟩ : ByteArray).size = n; rw [← str_len]; simp
theorem long_check {n : Nat} (h : n ≤ 20) : checkV (longV n) = 0 := by
  have hs := long_size n
  unfold checkV
  rw [if_neg (by show ¬ (3 : Int) = 0; decide), if_neg (by show ¬ (3 : Int) = 1; decide), if_neg (by show ¬ (3 : Int) = 2; decide), if_pos (by rfl), if_neg (by show ¬ (0 : Int) ≠ 0; decide), if_neg (by omega)]
theorem long_ok {n : Nat} (h : n ≤ 20) : (longV n).Ok := by
  have hs := long_size n
  have hm := maxlen_le
  exact ⟨by show _ ≤ (3 : Int); decide, by show (3 : Int) ≤ _; decide, by show _ ≤ (0 : Int); decide, by show (0 : Int) ≤ _; decide, by omega⟩
theorem esc_rep : ∀ n : Nat, escL (List.replicate n 97) = List.replicate n 97
  | 0 => rfl
  | n + 1 => by
    have ih := esc_rep n
    have e : escL (97 :: List.replicate n 97) = [97] ++ escL (List.replicate n 97) := by unfold escL; rw [List.flatMap_cons, if_neg (by decide)]
    rw [List.replicate_succ, e, ih]; rfl
theorem long_enc (n : Nat) : (encV (longV n)).length = n + 3 := by
  unfold encV
  rw [pay_3 (by rfl)]
  show (_ :: (escL (List.replicate n 97) ++ [0, 0])).length = _
  rw [esc_rep]; simp
theorem encL_rep (x : Vl) : ∀ k : Nat, (encL (List.replicate k x)).length = k * (encV x).length
  | 0 => by simp [encL]
  | k + 1 => by rw [List.replicate_succ, encL_cons, List.length_append, encL_rep x k, Nat.succ_mul]; omega
theorem long_all {n k : Nat} (h : n ≤ 20) (hk : k ≤ 6) : ∃ b e, encR (List.replicate k (longV n)) = (b, e) ∧ (k * (n + 3) > 100 → b = [] ∧ e = 5) ∧ (¬ k * (n + 3) > 100 → e = 0 ∧ b.length = k * (n + 3)) := by
  have hl := encL_rep (longV n) k
  rw [long_enc] at hl
  refine ⟨(encR (List.replicate k (longV n))).1, (encR (List.replicate k (longV n))).2, rfl, fun hb => ?_, fun hb => ?_⟩
  · unfold encR
    rw [if_neg (by simp; omega), errV_ok (fun v hv => by rw [List.eq_of_mem_replicate hv]; exact long_check h), if_neg (by simp), if_pos (by omega)]
    exact ⟨rfl, rfl⟩
  · unfold encR
    rw [if_neg (by simp; omega), errV_ok (fun v hv => by rw [List.eq_of_mem_replicate hv]; exact long_check h), if_neg (by simp), if_neg (by omega)]
    exact ⟨rfl, hl⟩

theorem info5_Cd6 : (Tryd.prog.info? 5).map (fun i => (i.zero, i.size, i.bytes)) = some (some (.int .u8 0), 1, 1) := by kernel_rfl

theorem info30_Cd6 : (Tryd.prog.info? 30).map (fun i => (i.zero, i.size, i.bytes)) = some (some (.agg #[.int .i64 0, .int .i64 0, .string ⟨#[]⟩]), 3, 32) := by kernel_rfl

theorem places30_Cd6 : ∀ w, ((#[{ name := "Kind", type := 3, offset := 0, embedded := false, tag := "", pkgPath := "", byteOffset := 0 }, { name := "Int", type := 3, offset := 1, embedded := false, tag := "", pkgPath := "", byteOffset := 8 }, { name := "Text", type := 9, offset := 2, embedded := false, tag := "", pkgPath := "", byteOffset := 16 }] : Array Field).mapM fun f => do pure (f.offset, ← sizeOf f.type) : Sem (Array (Nat × Nat))).run Tryd.prog w = .ok #[(0, 1), (1, 1), (2, 1)] w := fun w => by simp [Tryd.sizeOf3, Tryd.sizeOf9]

set_option maxHeartbeats 4000000 in
set_option maxRecDepth 100000 in
theorem long_vp (hG : (3, [Value.int .i64 m]) ∈ G) (a : Int) (a1 : -9223372036854775808 ≤ a) (a2 : a ≤ 9223372036854775807) (c : Int) (c1 : -9223372036854775808 ≤ c) (c2 : c ≤ 9223372036854775807) : VP Tryd.prog G 4 [.v (.int .i64 a), .v (.int .i64 c)] (.v (.bool true)) := by
  refine VC.body Tryd.func4 rfl Tryd.ntmps4 (Nat.le_of_ble_eq_true rfl) fun X0 w0 S00 => ?_
  have hmx : maxLen = 9223372036854775807 := rfl
  have hp1 := pickedF_bd a (show (1 : Int) ≤ 21 by decide)
  obtain ⟨n, hn⟩ := Int.eq_ofNat_of_zero_le hp1.1
  have hn20 : n ≤ 20 := by omega
  have hk1 := picked_vp G a 21 a1 a2 (by decide)
  rw [hn] at hk1
  have hp2 := pickedF_bd c (show (1 : Int) ≤ 7 by decide)
  obtain ⟨k, hk⟩ := Int.eq_ofNat_of_zero_le hp2.1
  have hk6 : k ≤ 6 := by omega
  have hk2 := picked_vp G c 7 c1 c2 (by decide)
  rw [hk] at hk2
  obtain ⟨eb, ee, he, hbig, hsm⟩ := long_all hn20 hk6
  have hev := enc_vp (G := G) hG (List.replicate k (longV n)) (by simp; omega) (fun v hv => by rw [List.eq_of_mem_replicate hv]; exact long_ok hn20)
  rw [he] at hev
  unfold encD bytesL at hev
  dsimp only at hev
  have hpb : k * (n + 3) ≤ 6 * 23 := Nat.mul_le_mul hk6 (by omega)
  have hpI : (((k * (n + 3) : Nat)) : Int) = (k : Int) * ((n : Int) + 3) := by rw [Int.natCast_mul, Int.natCast_add]; rfl
  generalize k * (n + 3) = pr at *
  have hpI := hpI.symm
  have hev2 : eb.length ≤ maxLen := by by_cases h : pr > 100; (rw [(hbig h).1]; exact Nat.zero_le _); (rw [(hsm h).2]; omega)
  refine CD.seq ?_
  refine CD.region ?_
  refine OD.still (wants_plain rfl) rfl (still_as rfl opd_const) ?_
  refine OD.wk (Wk.as_ (n := 66) (l' := [(0, _), (1, _)]) (S' := []) rfl rfl ⟨lk, lk, trivial⟩) ?_
  refine OD.nil ?_
  refine CD.seq ?_
  refine CD.region ?_
  refine OD.still (wants_plain rfl) rfl (still_mv rfl ot) ?_
  refine OD.callP (wants_plain rfl) rfl rfl rfl Tryd.call15 (hk1) ⟨ot, opd_const, trivial⟩ ?_
  refine OD.still (wants_plain rfl) rfl (still_as rfl ot) ?_
  refine OD.wk (Wk.as_ (n := 66) (l' := [(1, _), (5, _)]) (S' := []) rfl rfl ⟨lk, lk, trivial⟩) ?_
  refine OD.nil ?_
  refine CD.seq ?_
  refine CD.region ?_
  refine OD.still (wants_plain rfl) rfl (still_mv rfl ot) ?_
  refine OD.make (g := cB) (a := 0) (n := n) rfl cB_len (wants_plain rfl) rfl rfl Tryd.underlying25 info5_Cd6 rfl (by decide) ot ot (by omega) (by omega) (fun b16 => ?_)
  refine OD.still (wants_plain rfl) rfl (still_as rfl ot) ?_
  refine OD.wk (Wk.as_ (n := 66) (l' := [(1, _), (5, _), (6, _)]) (S' := [_]) rfl rfl ⟨lk, lk, lk, trivial⟩) ?_
  refine OD.nil ?_
  refine CD.seq ?_
  refine CD.seq ?_
  refine CD.region ?_
  refine OD.still (wants_plain rfl) rfl (still_as rfl opd_const) ?_
  refine OD.wk (Wk.as_ (n := 66) (l' := [(1, _), (5, _), (6, _), (7, _)]) (S' := [_]) rfl rfl ⟨lk, lk, lk, lk, trivial⟩) ?_
  refine OD.nil ?_
  refine CD.block ?_
  refine CD.wk (Wk.asS (n := 66) (l' := [(1, .v (.int .i64 c)), (5, .v (.int .i64 (n : Int))), (6, .v (.slice (some ⟨b16, 0, none⟩) n n)), (7, .v (.int .i64 ((0) : Nat)))]) (S' := [⟨b16, 5, n * 1, (fillL n (0)).flatMap cB⟩]) rfl (by repeat (first | exact List.Sublist.refl _ | apply List.Sublist.cons)) ⟨(by (repeat (first | exact look_hit | (apply look_at; focus (first | rfl | (simp; done) | (congr 2; omega))) | (apply look_miss; focus rfl))); done), (by (repeat (first | exact look_hit | (apply look_at; focus (first | rfl | (simp; done) | (congr 2; omega))) | (apply look_miss; focus rfl))); done), (by (repeat (first | exact look_hit | (apply look_at; focus (first | rfl | (simp; done) | (congr 2; omega))) | (apply look_miss; focus rfl))); done), (by (repeat (first | exact look_hit | (apply look_at; focus (first | rfl | (simp; done) | (congr 2; omega))) | (apply look_miss; focus rfl))); done), trivial⟩) (CD.loop (fun (i : Nat) y__ => (i ≤ n) ∧ y__ = (⟨66, [(1, .v (.int .i64 c)), (5, .v (.int .i64 (n : Int))), (6, .v (.slice (some ⟨b16, 0, none⟩) n n)), (7, .v (.int .i64 (i : Nat)))], [⟨b16, 5, n * 1, (fillL n i).flatMap cB⟩]⟩ : St)) (fun (i : Nat) => n - i) 0 ⟨(Nat.zero_le _), rfl⟩ ?_)
  rintro i _ ⟨hi, rfl⟩
  refine CD.seq ?_
  refine CD.seq ?_
  refine CD.region ?_
  refine OD.still (wants_plain rfl) rfl (still_mv rfl ot) ?_
  refine OD.still (wants_plain rfl) rfl (still_mv rfl ot) ?_
  refine OD.still (wants_plain rfl) rfl (still_bin rfl ot ot bin_lss) ?_
  refine OD.wk (Wk.as_ (n := 66) (l' := [(1, _), (5, _), (6, _), (7, _), (19, _)]) (S' := [_]) rfl rfl ⟨lk, lk, lk, lk, lk, trivial⟩) ?_
  refine OD.nil ?_
  refine CD.cond ot (fun hc0 => ?_) (fun hc0 => ?_)
  · have hc0' := hc0
    (try simp only [decide_eq_true_eq, decide_eq_false_iff_not, beq_iff_eq, bne_iff_ne, Bool.not_eq_true', Bool.not_eq_false', Bool.not_eq_true, Bool.not_eq_false, beq_eq_false_iff_ne, ne_eq, bne_eq_false_iff_eq, Bool.and_eq_true, Bool.or_eq_true, Bool.not_not, Bool.and_eq_false_iff, Bool.or_eq_false_iff, Int.not_lt, Int.not_le] at hc0')
    have hlt : i < n := by omega
    have hic : i < (fillL n i).length := by rw [fill_len (by omega)]; exact hlt
    refine CD.skip ?_
    refine CD.seq ?_
    refine CD.block ?_
    refine CD.region ?_
    refine OD.still (wants_plain rfl) rfl (still_mv rfl ot) ?_
    refine OD.still (wants_plain rfl) rfl (still_mv rfl ot) ?_
    refine OD.still (wants_plain rfl) rfl (still_r2 (mk := Op.indexAddr 25) rfl ot ot (by first | exact ix_list Tryd.runUnderlying25 Tryd.sizeOf5 rfl (by first | assumption | omega) | exact ix_list (j := Int.toNat _) Tryd.runUnderlying25 Tryd.sizeOf5 (Int.toNat_of_nonneg (by omega)).symm (by omega) | exact ix_row Tryd.runUnderlying25 Tryd.sizeOf5 rfl (by first | assumption | omega) | exact ix_row (j := Int.toNat _) Tryd.runUnderlying25 Tryd.sizeOf5 (Int.toNat_of_nonneg (by omega)).symm (by omega))) ?_
    refine OD.storeAt (k := 0) (cs' := (fillL n (i + 1)).flatMap cB) (wants_plain rfl) rfl rfl ot rfl rfl opd_const rfl rfl Tryd.sizeOf5 rfl (by rw [fm_len cB_len, fill_len (by omega)]; omega) (by rw [Nat.zero_add]; exact (fm_set cB_len _ (97 : UInt8) hic).trans (by rw [fill_step hlt])) ?_
    refine OD.wk (Wk.as_ (n := 66) (l' := [(1, _), (5, _), (6, _), (7, _)]) (S' := [_]) rfl rfl ⟨lk, lk, lk, lk, trivial⟩) ?_
    refine OD.nil ?_
    refine CD.region ?_
    refine OD.still (wants_plain rfl) rfl (still_mv rfl ot) ?_
    refine OD.still (wants_plain rfl) rfl (still_bin rfl ot opd_const (bin_add (wrap_i64 (by omega) (by omega)))) ?_
    refine OD.still (wants_plain rfl) rfl (still_as rfl ot) ?_
    refine OD.wk (Wk.as_ (n := 66) (l' := [(1, _), (5, _), (6, _), (7, _)]) (S' := [_]) rfl rfl ⟨lk, lk, lk, lk, trivial⟩) ?_
    refine OD.nil ?_
    refine ⟨(i + 1), ⟨66, [(1, .v (.int .i64 c)), (5, .v (.int .i64 (n : Int))), (6, .v (.slice (some ⟨b16, 0, none⟩) n n)), (7, .v (.int .i64 (((i + 1)) : Nat)))], [⟨b16, 5, n * 1, (fillL n ((i + 1))).flatMap cB⟩]⟩, ?_, Wk.asS (n := 66) rfl (by repeat (first | exact List.Sublist.refl _ | apply List.Sublist.cons)) ⟨(by (repeat (first | exact look_hit | (apply look_at; focus (first | rfl | (simp; done) | (congr 2; omega))) | (apply look_miss; focus rfl))); done), (by (repeat (first | exact look_hit | (apply look_at; focus (first | rfl | (simp; done) | (congr 2; omega))) | (apply look_miss; focus rfl))); done), (by (repeat (first | exact look_hit | (apply look_at; focus (first | rfl | (simp; done) | (congr 2; omega))) | (apply look_miss; focus rfl))); done), (by (repeat (first | exact look_hit | (apply look_at; focus (first | rfl | (simp; done) | (congr 2; omega))) | (apply look_miss; focus rfl))); done), trivial⟩, (by omega), rfl⟩
    first | omega | (simp only []; omega)
  · have hc0' := hc0
    (try simp only [decide_eq_true_eq, decide_eq_false_iff_not, beq_iff_eq, bne_iff_ne, Bool.not_eq_true', Bool.not_eq_false', Bool.not_eq_true, Bool.not_eq_false, beq_eq_false_iff_ne, ne_eq, bne_eq_false_iff_eq, Bool.and_eq_true, Bool.or_eq_true, Bool.not_not, Bool.and_eq_false_iff, Bool.or_eq_false_iff, Int.not_lt, Int.not_le] at hc0')
    have hend : i = n := by omega
    subst hend
    refine CD.exit ?_
    refine CD.seq ?_
    refine CD.wk (Wk.give (k := 0) (t := 6) (sz := 1) (m := i) (cap := i) (cs := ((List.replicate i 97).flatMap cB)) rfl lk (by rw [fill_end]) (by rw [fm_len cB_len]; simp) (Nat.le_refl _) (by omega)) ?_
    refine CD.region ?_
    refine OD.still (wants_plain rfl) rfl (still_mv rfl ot) ?_
    refine OD.callP (wants_plain rfl) rfl rfl rfl Tryd.call15 (hk2) ⟨ot, opd_const, trivial⟩ ?_
    refine OD.still (wants_plain rfl) rfl (still_as rfl ot) ?_
    refine OD.wk (Wk.as_ (n := 66) (l' := [(5, _), (6, _), (8, _)]) (S' := []) rfl rfl ⟨lk, lk, lk, trivial⟩) ?_
    refine OD.nil ?_
    refine CD.seq ?_
    refine CD.region ?_
    refine OD.still (wants_plain rfl) rfl (still_as rfl opd_const) ?_
    refine OD.wk (Wk.as_ (n := 66) (l' := [(5, _), (6, _), (8, _), (9, _)]) (S' := ([])) rfl rfl ⟨lk, lk, lk, lk, trivial⟩) ?_
    refine OD.nil ?_
    refine CD.seq ?_
    refine CD.seq ?_
    refine CD.region ?_
    refine OD.still (wants_plain rfl) rfl (still_as rfl opd_const) ?_
    refine OD.wk (Wk.as_ (n := 66) (l' := [(5, _), (6, _), (8, _), (9, _), (10, _)]) (S' := ([])) rfl rfl ⟨lk, lk, lk, lk, lk, trivial⟩) ?_
    refine OD.nil ?_
    refine CD.block ?_
    refine CD.wk (Wk.asS (n := 66) (l' := [(5, .v (.int .i64 (i : Int))), (6, .list 1 ((List.replicate i 97).flatMap cB) i), (8, .v (.int .i64 (k : Int))), (9, .v (.slice none (List.replicate (0) (longV i)).length (0))), (10, .v (.int .i64 ((0) : Nat)))]) (S' := (([]))) rfl (by repeat (first | exact List.Sublist.refl _ | apply List.Sublist.cons_cons | apply List.Sublist.cons)) ⟨(by (repeat (first | exact look_hit | (apply look_at; focus (first | rfl | (simp; done) | (congr 2; omega) | (apply row_eq; exact List.replicate_succ'.symm) | (apply row_eq; simp; done))) | (apply look_miss; focus rfl))); done), (by (repeat (first | exact look_hit | (apply look_at; focus (first | rfl | (simp; done) | (congr 2; omega) | (apply row_eq; exact List.replicate_succ'.symm) | (apply row_eq; simp; done))) | (apply look_miss; focus rfl))); done), (by (repeat (first | exact look_hit | (apply look_at; focus (first | rfl | (simp; done) | (congr 2; omega) | (apply row_eq; exact List.replicate_succ'.symm) | (apply row_eq; simp; done))) | (apply look_miss; focus rfl))); done), (by (repeat (first | exact look_hit | (apply look_at; focus (first | rfl | (simp; done) | (congr 2; omega) | (apply row_eq; exact List.replicate_succ'.symm) | (apply row_eq; simp; done))) | (apply look_miss; focus rfl))); done), (by (repeat (first | exact look_hit | (apply look_at; focus (first | rfl | (simp; done) | (congr 2; omega) | (apply row_eq; exact List.replicate_succ'.symm) | (apply row_eq; simp; done))) | (apply look_miss; focus rfl))); done), trivial⟩) (CD.loop (fun (gh__ : Nat × Option Addr × Nat × List Blk) y__ => match gh__ with | (j, adv, cpv, Sv) => (j ≤ k) ∧ (OwnL 30 3 ((List.replicate j (longV i)).flatMap cV) (List.replicate j (longV i)).length adv cpv Sv) ∧ y__ = (⟨66, [(5, .v (.int .i64 (i : Int))), (6, .list 1 ((List.replicate i 97).flatMap cB) i), (8, .v (.int .i64 (k : Int))), (9, .v (.slice adv (List.replicate j (longV i)).length cpv)), (10, .v (.int .i64 (j : Nat)))], (Sv)⟩ : St)) (fun (gh__ : Nat × Option Addr × Nat × List Blk) => match gh__ with | (j, adv, cpv, Sv) => k - j) (0, none, 0, []) ⟨(Nat.zero_le _), (OwnL.cast ownL_nil (by first | rfl | simp)), rfl⟩ ?_)
    rintro ⟨j, adv, cpv, Sv⟩ _ ⟨hj, hov, rfl⟩
    refine CD.seq ?_
    refine CD.seq ?_
    refine CD.region ?_
    refine OD.still (wants_plain rfl) rfl (still_mv rfl ot) ?_
    refine OD.still (wants_plain rfl) rfl (still_mv rfl ot) ?_
    refine OD.still (wants_plain rfl) rfl (still_bin rfl ot ot bin_lss) ?_
    refine OD.wk (Wk.as_ (n := 66) (l' := [(5, _), (6, _), (8, _), (9, _), (10, _), (29, _)]) (S' := (Sv)) rfl rfl ⟨lk, lk, lk, lk, lk, lk, trivial⟩) ?_
    refine OD.nil ?_
    refine CD.cond ot (fun hc1 => ?_) (fun hc1 => ?_)
    · have hc1' := hc1
      (try simp only [decide_eq_true_eq, decide_eq_false_iff_not, beq_iff_eq, bne_iff_ne, Bool.not_eq_true', Bool.not_eq_false', Bool.not_eq_true, Bool.not_eq_false, beq_eq_false_iff_ne, ne_eq, bne_eq_false_iff_eq, Bool.and_eq_true, Bool.or_eq_true, Bool.not_not, Bool.and_eq_false_iff, Bool.or_eq_false_iff, Int.not_lt, Int.not_le] at hc1')
      have hjt : j < k := by omega
      refine CD.skip ?_
      refine CD.seq ?_
      refine CD.block ?_
      refine CD.region ?_
      refine OD.still (wants_plain rfl) rfl (still_mv rfl ot) ?_
      refine OD.still (wants_plain rfl) rfl (still_mv rfl ot) ?_
      first | refine OD.still (wants_plain rfl) rfl (still_ofBytes rfl ot Tryd.underlying25 Tryd.underlying5 Tryd.underlying9) ?_ | refine OD.still (wants_plain rfl) rfl (still_ofBytesF rfl ot Tryd.underlying25 Tryd.underlying5 Tryd.underlying9) ?_
      refine OD.still (wants_plain rfl) rfl (still_bld (pl := [(0, _), (2, _)]) (ds := [_, _, _]) rfl Tryd.zeroValue30 Tryd.runUnderlying30 places30_Cd6 ⟨rfl, opd_const, rfl, ot, trivial⟩ rfl rfl) ?_
      refine OD.bldS (pl := [(0, _)]) (zvs := [.int .i64 0, .int .i64 0, .string ⟨#[]⟩]) (ds := [_, _, _]) (wants_plain rfl) rfl rfl Tryd.zeroValue30 Tryd.runUnderlying23 Tryd.sizeOf30 rfl rfl (by kernel_rfl) ⟨rfl, ot, trivial⟩ rfl rfl (fun b36 => ?_)
      refine OD.give (k := 0) (t := 36) (sz := 3) (m := 1) rfl lk rfl rfl rfl (Nat.le_refl _) (by decide) ?_
      refine OD.appendG (ls := (List.replicate j (longV i))) (new := [longV i]) (Sq := Sv) cV_len cV_one (wants_plain rfl) rfl rfl Tryd.underlying23 info30_Cd6 rfl (by decide) ot hov (perm_r11 (A := [])) ot (by simp) (by have hmx : maxLen = 9223372036854775807 := rfl; (try simp only [List.length_append, List.length_cons, List.length_nil, List.length_replicate]); omega) (by have hmx : maxLen = 9223372036854775807 := rfl; (try simp only [List.length_append, List.length_cons, List.length_nil, List.length_replicate]); omega) (fun b37 cp37 h137 h237 => ?_)
      refine OD.perm (perm_q11 (S1 := [⟨b37, 30, cp37 * 3, List.flatMap cV ((List.replicate j (longV i)) ++ [longV i])⟩]) (A := [])) ?_
      refine OD.still (wants_plain rfl) rfl (still_as rfl ot) ?_
      refine OD.wk (Wk.as_ (n := 66) (l' := [(5, _), (6, _), (8, _), (9, _), (10, _)]) (S' := ([⟨b37, 30, cp37 * 3, List.flatMap cV ((List.replicate j (longV i)) ++ [longV i])⟩])) rfl rfl ⟨lk, lk, lk, lk, lk, trivial⟩) ?_
      refine OD.nil ?_
      refine CD.region ?_
      refine OD.still (wants_plain rfl) rfl (still_mv rfl ot) ?_
      refine OD.still (wants_plain rfl) rfl (still_bin rfl ot opd_const (bin_add (wrap_i64 (by omega) (by omega)))) ?_
      refine OD.still (wants_plain rfl) rfl (still_as rfl ot) ?_
      refine OD.wk (Wk.as_ (n := 66) (l' := [(5, _), (6, _), (8, _), (9, _), (10, _)]) (S' := ([⟨b37, 30, cp37 * 3, List.flatMap cV ((List.replicate j (longV i)) ++ [longV i])⟩])) rfl rfl ⟨lk, lk, lk, lk, lk, trivial⟩) ?_
      refine OD.nil ?_
      refine ⟨((j + 1), (some ⟨b37, 0, none⟩), cp37, [⟨b37, 30, cp37 * 3, List.flatMap cV ((List.replicate j (longV i)) ++ [longV i])⟩]), ⟨66, [(5, .v (.int .i64 (i : Int))), (6, .list 1 ((List.replicate i 97).flatMap cB) i), (8, .v (.int .i64 (k : Int))), (9, .v (.slice ((some ⟨b37, 0, none⟩)) (List.replicate ((j + 1)) (longV i)).length cp37)), (10, .v (.int .i64 (((j + 1)) : Nat)))], (([⟨b37, 30, cp37 * 3, List.flatMap cV ((List.replicate j (longV i)) ++ [longV i])⟩]))⟩, ?_, Wk.asS (n := 66) rfl (by repeat (first | exact List.Sublist.refl _ | apply List.Sublist.cons_cons | apply List.Sublist.cons)) ⟨(by (repeat (first | exact look_hit | (apply look_at; focus (first | rfl | (simp; done) | (congr 2; omega) | (apply row_eq; exact List.replicate_succ'.symm) | (apply row_eq; simp; done))) | (apply look_miss; focus rfl))); done), (by (repeat (first | exact look_hit | (apply look_at; focus (first | rfl | (simp; done) | (congr 2; omega) | (apply row_eq; exact List.replicate_succ'.symm) | (apply row_eq; simp; done))) | (apply look_miss; focus rfl))); done), (by (repeat (first | exact look_hit | (apply look_at; focus (first | rfl | (simp; done) | (congr 2; omega) | (apply row_eq; exact List.replicate_succ'.symm) | (apply row_eq; simp; done))) | (apply look_miss; focus rfl))); done), (by (repeat (first | exact look_hit | (apply look_at; focus (first | rfl | (simp; done) | (congr 2; omega) | (apply row_eq; exact List.replicate_succ'.symm) | (apply row_eq; simp; done))) | (apply look_miss; focus rfl))); done), (by (repeat (first | exact look_hit | (apply look_at; focus (first | rfl | (simp; done) | (congr 2; omega) | (apply row_eq; exact List.replicate_succ'.symm) | (apply row_eq; simp; done))) | (apply look_miss; focus rfl))); done), trivial⟩, (by omega), (OwnL.cast (ownL_row h137 h237) (by exact List.replicate_succ'.symm)), rfl⟩
      first | omega | (simp only []; omega)
    · have hc1' := hc1
      (try simp only [decide_eq_true_eq, decide_eq_false_iff_not, beq_iff_eq, bne_iff_ne, Bool.not_eq_true', Bool.not_eq_false', Bool.not_eq_true, Bool.not_eq_false, beq_eq_false_iff_ne, ne_eq, bne_eq_false_iff_eq, Bool.and_eq_true, Bool.or_eq_true, Bool.not_not, Bool.and_eq_false_iff, Bool.or_eq_false_iff, Int.not_lt, Int.not_le] at hc1')
      have hjk : j = k := by omega
      subst hjk
      refine CD.exit ?_
      refine CD.seq ?_
      refine CD.region ?_
      refine OD.still (wants_plain rfl) rfl (still_mv rfl ot) ?_
      refine OD.giveL (t := 39) (Sq := Sv) lk hov (fm_len cV_len _) (perm_r11 (A := [])) ?_
      refine OD.callP (wants_plain rfl) rfl rfl rfl Tryd.call14 (hev) ⟨ot, trivial⟩ ?_
      refine OD.still (wants_plain rfl) rfl (still_mv rfl ot) ?_
      refine OD.still (wants_plain rfl) rfl (still_extract rfl ot rfl) ?_
      refine OD.still (wants_plain rfl) rfl (still_extract rfl ot rfl) ?_
      refine OD.still (wants_plain rfl) rfl (still_as rfl ot) ?_
      refine OD.still (wants_plain rfl) rfl (still_as rfl ot) ?_
      refine OD.wk (Wk.as_ (n := 66) (l' := [(5, _), (8, _), (11, _), (12, _)]) (S' := []) rfl rfl ⟨lk, lk, lk, lk, trivial⟩) ?_
      refine OD.nil ?_
      refine CD.seq ?_
      refine CD.seq ?_
      refine CD.region ?_
      refine OD.still (wants_plain rfl) rfl (still_mv rfl ot) ?_
      refine OD.still (wants_plain rfl) rfl (still_mv rfl ot) ?_
      refine OD.still (wants_plain rfl) rfl (still_bin rfl ot opd_const (bin_add (wrap_i64 (by omega) (by omega)))) ?_
      refine OD.still (wants_plain rfl) rfl (still_bin (r := .int .i64 (pr : Int)) rfl ot ot (bin_mul (by rw [hpI]; exact wrap_i64 (by omega) (by omega)))) ?_
      refine OD.still (wants_plain rfl) rfl (still_bin rfl ot opd_const bin_gtr) ?_
      refine OD.wk (Wk.as_ (n := 66) (l' := [(5, _), (8, _), (11, _), (12, _), (47, _)]) (S' := []) rfl rfl ⟨lk, lk, lk, lk, lk, trivial⟩) ?_
      refine OD.nil ?_
      refine CD.cond ot (fun hc2 => ?_) (fun hc2 => ?_)
      · have hc2' := hc2
        (try simp only [decide_eq_true_eq, decide_eq_false_iff_not, beq_iff_eq, bne_iff_ne, Bool.not_eq_true', Bool.not_eq_false', Bool.not_eq_true, Bool.not_eq_false, beq_eq_false_iff_ne, ne_eq, bne_eq_false_iff_eq, Bool.and_eq_true, Bool.or_eq_true, Bool.not_not, Bool.and_eq_false_iff, Bool.or_eq_false_iff, Int.not_lt, Int.not_le] at hc2')
        obtain ⟨rfl, rfl⟩ := hbig (by omega)
        refine CD.seq ?_
        refine CD.region ?_
        refine OD.still (wants_plain rfl) rfl (still_mv rfl ot) ?_
        refine OD.still (wants_plain rfl) rfl (still_bin rfl ot opd_const bin_eql) ?_
        refine OD.still (wants_plain rfl) rfl (still_mv rfl ot) ?_
        refine OD.split (t := 50) lk (fun hg50 => ?_) (fun hg50 => ?_)
        · have hg50' := hg50; (try simp only [decide_eq_true_eq, decide_eq_false_iff_not, beq_iff_eq, bne_iff_ne, Bool.not_eq_true', Bool.not_eq_false', Bool.not_eq_true, Bool.not_eq_false, beq_eq_false_iff_ne, ne_eq, bne_eq_false_iff_eq, Bool.and_eq_true, Bool.or_eq_true, Bool.not_not] at hg50')
          refine OD.still (wants_T rfl rfl rfl lk (by first | rfl | assumption)) rfl (still_mv rfl ot) ?_
          refine OD.still (wants_T rfl rfl rfl lk (by first | rfl | assumption)) rfl (still_r1 (mk := fun y => .call { callee := .builtin .len, args := #[y], argTypes := #[25] }) rfl ot (by first | exact len_list rfl Tryd.runUnderlying25 | exact len_row rfl Tryd.runUnderlying25)) ?_
          refine OD.still (wants_T rfl rfl rfl lk (by first | rfl | assumption)) rfl (still_bin rfl ot opd_const bin_eql) ?_
          refine OD.still (wants_plain rfl) rfl (still_pickT rfl ot (by first | rfl | assumption) ot) ?_
          refine OD.still (wants_plain rfl) rfl (still_as rfl ot) ?_
          refine OD.wk (Wk.as_ (n := 66) (l' := [(4, _)]) (S' := []) rfl rfl ⟨lk, trivial⟩) ?_
          refine OD.nil ?_
          refine CD.ret ?_
          refine ⟨.inr rfl, _, [], List.nil_sublist _, ret_one Tryd.results4 (res_tmp (Nat.le_of_ble_eq_true rfl) lk), ?_⟩
          first | exact ⟨rfl, rfl⟩ | (exfalso; simp_all; done) | (refine ⟨vb ?_, rfl⟩; simp_all; done)
        · have hg50' := hg50; (try simp only [decide_eq_true_eq, decide_eq_false_iff_not, beq_iff_eq, bne_iff_ne, Bool.not_eq_true', Bool.not_eq_false', Bool.not_eq_true, Bool.not_eq_false, beq_eq_false_iff_ne, ne_eq, bne_eq_false_iff_eq, Bool.and_eq_true, Bool.or_eq_true, Bool.not_not] at hg50')
          refine OD.skip (wants_F rfl rfl rfl lk (by first | rfl | assumption)) rfl ?_
          refine OD.skip (wants_F rfl rfl rfl lk (by first | rfl | assumption)) rfl ?_
          refine OD.skip (wants_F rfl rfl rfl lk (by first | rfl | assumption)) rfl ?_
          refine OD.still (wants_plain rfl) rfl (still_pickF rfl ot (by first | rfl | assumption) opd_const) ?_
          refine OD.still (wants_plain rfl) rfl (still_as rfl ot) ?_
          refine OD.wk (Wk.as_ (n := 66) (l' := [(4, _)]) (S' := []) rfl rfl ⟨lk, trivial⟩) ?_
          refine OD.nil ?_
          refine CD.ret ?_
          refine ⟨.inr rfl, _, [], List.nil_sublist _, ret_one Tryd.results4 (res_tmp (Nat.le_of_ble_eq_true rfl) lk), ?_⟩
          first | exact ⟨rfl, rfl⟩ | (exfalso; simp_all; done) | (refine ⟨vb ?_, rfl⟩; simp_all; done)
      · have hc2' := hc2
        (try simp only [decide_eq_true_eq, decide_eq_false_iff_not, beq_iff_eq, bne_iff_ne, Bool.not_eq_true', Bool.not_eq_false', Bool.not_eq_true, Bool.not_eq_false, beq_eq_false_iff_ne, ne_eq, bne_eq_false_iff_eq, Bool.and_eq_true, Bool.or_eq_true, Bool.not_not, Bool.and_eq_false_iff, Bool.or_eq_false_iff, Int.not_lt, Int.not_le] at hc2')
        obtain ⟨rfl, hbl⟩ := hsm (by omega)
        refine CD.skip ?_
        refine CD.seq ?_
        refine CD.region ?_
        refine OD.still (wants_plain rfl) rfl (still_mv rfl ot) ?_
        refine OD.still (wants_plain rfl) rfl (still_bin rfl ot opd_const bin_eql) ?_
        refine OD.still (wants_plain rfl) rfl (still_mv rfl ot) ?_
        refine OD.split (t := 57) lk (fun hg57 => ?_) (fun hg57 => ?_)
        · have hg57' := hg57; (try simp only [decide_eq_true_eq, decide_eq_false_iff_not, beq_iff_eq, bne_iff_ne, Bool.not_eq_true', Bool.not_eq_false', Bool.not_eq_true, Bool.not_eq_false, beq_eq_false_iff_ne, ne_eq, bne_eq_false_iff_eq, Bool.and_eq_true, Bool.or_eq_true, Bool.not_not] at hg57')
          refine OD.still (wants_T rfl rfl rfl lk (by first | rfl | assumption)) rfl (still_mv rfl ot) ?_
          refine OD.still (wants_T rfl rfl rfl lk (by first | rfl | assumption)) rfl (still_r1 (mk := fun y => .call { callee := .builtin .len, args := #[y], argTypes := #[25] }) rfl ot (by first | exact len_list rfl Tryd.runUnderlying25 | exact len_row rfl Tryd.runUnderlying25)) ?_
          refine OD.still (wants_T rfl rfl rfl lk (by first | rfl | assumption)) rfl (still_mv rfl ot) ?_
          refine OD.still (wants_T rfl rfl rfl lk (by first | rfl | assumption)) rfl (still_mv rfl ot) ?_
          refine OD.still (wants_T rfl rfl rfl lk (by first | rfl | assumption)) rfl (still_bin rfl ot opd_const (bin_add (wrap_i64 (by omega) (by omega)))) ?_
          refine OD.still (wants_T rfl rfl rfl lk (by first | rfl | assumption)) rfl (still_bin (r := .int .i64 (pr : Int)) rfl ot ot (bin_mul (by rw [hpI]; exact wrap_i64 (by omega) (by omega)))) ?_
          refine OD.still (wants_T rfl rfl rfl lk (by first | rfl | assumption)) rfl (still_bin rfl ot ot bin_eql) ?_
          refine OD.still (wants_plain rfl) rfl (still_pickT rfl ot (by first | rfl | assumption) ot) ?_
          refine OD.still (wants_plain rfl) rfl (still_as rfl ot) ?_
          refine OD.wk (Wk.as_ (n := 66) (l' := [(4, _)]) (S' := []) rfl rfl ⟨lk, trivial⟩) ?_
          refine OD.nil ?_
          refine CD.ret ?_
          refine ⟨.inr rfl, _, [], List.nil_sublist _, ret_one Tryd.results4 (res_tmp (Nat.le_of_ble_eq_true rfl) lk), ?_⟩
          first | exact ⟨rfl, rfl⟩ | (exfalso; simp_all; done) | (refine ⟨vb ?_, rfl⟩; simp_all; done)
        · have hg57' := hg57; (try simp only [decide_eq_true_eq, decide_eq_false_iff_not, beq_iff_eq, bne_iff_ne, Bool.not_eq_true', Bool.not_eq_false', Bool.not_eq_true, Bool.not_eq_false, beq_eq_false_iff_ne, ne_eq, bne_eq_false_iff_eq, Bool.and_eq_true, Bool.or_eq_true, Bool.not_not] at hg57')
          refine OD.skip (wants_F rfl rfl rfl lk (by first | rfl | assumption)) rfl ?_
          refine OD.skip (wants_F rfl rfl rfl lk (by first | rfl | assumption)) rfl ?_
          refine OD.skip (wants_F rfl rfl rfl lk (by first | rfl | assumption)) rfl ?_
          refine OD.skip (wants_F rfl rfl rfl lk (by first | rfl | assumption)) rfl ?_
          refine OD.skip (wants_F rfl rfl rfl lk (by first | rfl | assumption)) rfl ?_
          refine OD.skip (wants_F rfl rfl rfl lk (by first | rfl | assumption)) rfl ?_
          refine OD.skip (wants_F rfl rfl rfl lk (by first | rfl | assumption)) rfl ?_
          refine OD.still (wants_plain rfl) rfl (still_pickF rfl ot (by first | rfl | assumption) opd_const) ?_
          refine OD.still (wants_plain rfl) rfl (still_as rfl ot) ?_
          refine OD.wk (Wk.as_ (n := 66) (l' := [(4, _)]) (S' := []) rfl rfl ⟨lk, trivial⟩) ?_
          refine OD.nil ?_
          refine CD.ret ?_
          refine ⟨.inr rfl, _, [], List.nil_sublist _, ret_one Tryd.results4 (res_tmp (Nat.le_of_ble_eq_true rfl) lk), ?_⟩
          first | exact ⟨rfl, rfl⟩ | (exfalso; simp_all; done) | (refine ⟨vb ?_, rfl⟩; simp_all; done)

theorem walkKeyLong (a : Int) (wa : (Lit.int .i64 a).wf = true) (c : Int) (wc : (Lit.int .i64 c).wf = true) (w : World) {m : Int} (hm : Tab.TabAt w 3 [Value.int .i64 m]) : Calls Tryd.prog 4 #[.int .i64 a, .int .i64 c] w fun e w' => e = .returned (.bool true) ∧ Below w.heap.size w w' :=
  (long_vp (G := [(3, [Value.int .i64 m])]) List.mem_cons_self a (wf_bd wa).1 (wf_bd wa).2 c (wf_bd wc).1 (wf_bd wc).2).runL (fun g hg => by simp only [List.mem_cons, List.not_mem_nil, or_false] at hg; subst hg; exact ⟨by simp, hm⟩) (vs := [.int .i64 a, .int .i64 c]) (RepL.cons (Rep.v _) (RepL.vs w _ [_]))

end Go.Proofs.YtoemmoeedhllfaaDoor.Cd
