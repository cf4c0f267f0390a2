/-
  What the proof of KeyParts leans on, part 2 of 2: walks of the program's functions at the level of values, and plain facts of what they compute.
-/
import Derived.Test.YtoemmoeedhllfaaDoorPKeyParts1
namespace Go.Proofs.YtoemmoeedhllfaaDoor.Cd
open Go.RowKit V Pk Vl
set_option linter.unusedVariables false
set_option linter.unusedSimpArgs false

theorem repl_one (c : UInt8) (new : List UInt8) : ∀ s : List UInt8, Lib.replaceK [c] new (s.count c) s = s.flatMap fun b => if b = c then new else [b]
  | [] => rfl
  | b :: l => by
    have ih := repl_one c new l
    by_cases h : b = c
    · subst h
      have hi : Lib.index (b :: l) [b] = ((0 : Nat) : Int) := by rw [Lib.index_one]; simp [Lib.indexByte]
      rw [List.count_cons_self, Lib.replaceK_hit _ _ _ _ _ hi, List.flatMap_cons, if_pos rfl, ← ih]
      simp
    · have hc : (b :: l).count c = l.count c := List.count_cons_of_ne h
      rw [hc, List.flatMap_cons, if_neg h, ← ih]
      cases hk : l.count c with
      | zero => rfl
      | succ k =>
        obtain ⟨i, hi⟩ := Lib.index_of_count (s := l) (old := [c]) (by rw [Lib.count_one]; omega)
        have hi2 : Lib.index (b :: l) [c] = ((i + 1 : Nat) : Int) := by
          rw [Lib.index_one] at hi ⊢
          unfold Lib.indexByte
          rw [if_neg (by simpa using h), hi, if_neg (by rw [beq_iff_eq]; omega)]
          omega
        rw [Lib.replaceK_hit _ _ _ _ _ hi2, Lib.replaceK_hit _ _ _ _ _ hi]
        simp
def replS (c : UInt8) (new : List UInt8) (s : ByteArray) : ByteArray := ⟨(s.data.toList.flatMap fun b => if b = c then new else [b]).toArray⟩
theorem replAll_one (c : UInt8) (new s : List UInt8) : Lib.replaceAll s [c] new = s.flatMap fun b => if b = c then new else [b] := by
  unfold Lib.replaceAll Lib.replace Lib.replaceNum
  split
  · rename_i h
    have h' : [c] = new := by simpa using h
    subst h'
    induction s with
    | nil => rfl
    | cons b l ih =>
      rw [List.flatMap_cons, ← ih]
      have : (if b = c then [c] else [b]) = [b] := by
        split
        · rename_i e; rw [e]
        · rfl
      rw [this]; rfl
  · rw [if_pos (.inl (by decide)), Lib.count_one, repl_one]
variable {G : List (Nat × List Value)} {m : Int}
theorem repl_vp (hG : (3, [Value.int .i64 m]) ∈ G) (c : UInt8) (new : ByteArray) (s : ByteArray) (hs : s.size ≤ 1000000) (hn : new.size ≤ 1000) : VP Tryd.prog G 30 [.v (.string s), .v (.string ⟨#[c]⟩), .v (.string new)] (.v (.string (replS c new.data.toList s))) := by
  have hc : Lib.countB s ⟨#[c]⟩ ≤ 1000000 := by
    show Lib.count s.data.toList [c] ≤ 1000000
    rw [Lib.count_one]
    exact Nat.le_trans List.count_le_length (by rw [str_len]; exact hs)
  have hmul : Lib.countB s ⟨#[c]⟩ * new.size ≤ 1000000 * 1000 := Nat.mul_le_mul hc hn
  have key := VP.ofCalls (P := Tryd.prog) (G := G) (f := 30) (vs := [.string s, .string ⟨#[c]⟩, .string new]) (v := .string (replS c new.data.toList s)) fun w htab => by
    refine (Tryd.strings_ReplaceAll s ⟨#[c]⟩ new m w (by omega) (htab _ hG 0 _ rfl) (Nat.le_refl _) (by omega)).mono fun e w' ⟨h1, h2⟩ => ⟨?_, h2⟩
    rw [h1]
    congr 2
    show (⟨(Lib.replaceAll s.data.toList [c] new.data.toList).toArray⟩ : ByteArray) = _
    rw [replAll_one]; rfl
  exact key

/-! ### Keys -/
def kb (v : Vl) : UInt8 := UInt8.ofNat v.k.toNat
def nb (v : Vl) : UInt8 := UInt8.ofNat v.n.toNat
def uN (v : Vl) : Nat := (v.n + 9223372036854775808).toNat
def beAt (u k : Nat) : UInt8 := UInt8.ofNat (u / 256 ^ (7 - k))
def be8 (u : Nat) : List UInt8 := (List.range 8).map (beAt u)
def escL (s : List UInt8) : List UInt8 := s.flatMap fun b => if b = 0 then [0, 255] else [b]
def payV (v : Vl) : List UInt8 := if v.k = 1 then [nb v] else if v.k = 2 then be8 (uN v) else if v.k = 3 then escL v.s.data.toList ++ [0, 0] else []
def encV (v : Vl) : List UInt8 := kb v :: payV v
def encL (l : List Vl) : List UInt8 := l.flatMap encV
def errV : List Vl → Int
  | [] => 0
  | v :: r => if checkV v = 0 then errV r else checkV v
/-- What Encode answers. -/
def encR (l : List Vl) : List UInt8 × Int := if l.length > 6 then ([], 1) else if errV l ≠ 0 then ([], errV l) else if (encL l).length > 100 then ([], 5) else (encL l, 0)
def bytesL (b : List UInt8) : D := .list 1 (b.flatMap cB) b.length
def encD (r : List UInt8 × Int) : D := .tup [bytesL r.1, .v (.int .i64 r.2)]
theorem errV_no : ∀ {l : List Vl} {i : Nat} (hi : i < l.length), (∀ v ∈ l.take i, checkV v = 0) → checkV l[i] ≠ 0 → errV l = checkV l[i]
  | v :: r, 0, hi, _, h => by
    have h' : checkV v ≠ 0 := h
    show errV (v :: r) = checkV v
    rw [errV, if_neg h']
  | v :: r, i + 1, hi, h0, h => by
    rw [errV, if_pos (h0 v (by simp))]
    exact errV_no (l := r) (i := i) (by simpa using hi) (fun x hx => h0 x (by rw [List.take_succ_cons]; exact List.mem_cons_of_mem _ hx)) h
theorem errV_ok : ∀ {l : List Vl}, (∀ v ∈ l, checkV v = 0) → errV l = 0
  | [], _ => rfl
  | v :: r, h => by rw [errV, if_pos (h v List.mem_cons_self)]; exact errV_ok fun x hx => h x (List.mem_cons_of_mem _ hx)
theorem check_kind {v : Vl} (h : checkV v = 0) : 0 ≤ v.k ∧ v.k ≤ 3 := by
  unfold checkV at h
  split at h
  · omega
  · split at h
    · omega
    · split at h
      · omega
      · split at h
        · omega
        · cases h
theorem check_bool {v : Vl} (h : checkV v = 0) (hk : v.k = 1) : 0 ≤ v.n ∧ v.n ≤ 1 := by
  unfold checkV at h
  rw [if_neg (by omega), if_pos hk] at h
  split at h
  · cases h
  · omega
theorem check_text {v : Vl} (h : checkV v = 0) (hk : v.k = 3) : v.s.size ≤ 20 := by
  unfold checkV at h
  rw [if_neg (by omega), if_neg (by omega), if_neg (by omega), if_pos hk] at h
  split at h
  · cases h
  · split at h
    · cases h
    · omega
theorem kb_nat {v : Vl} (h : checkV v = 0) : ((kb v).toNat : Int) = v.k := by
  have := check_kind h
  unfold kb
  rw [UInt8.toNat_ofNat']
  omega
theorem nb_nat {v : Vl} (h : checkV v = 0) (hk : v.k = 1) : ((nb v).toNat : Int) = v.n := by
  have := check_bool h hk
  unfold nb
  rw [UInt8.toNat_ofNat']
  omega
theorem kb_wrap {v : Vl} (h : checkV v = 0) : IntKind.u8.wrap v.k = ((kb v).toNat : Int) := by
  have := check_kind h
  rw [kb_nat h]
  show v.k % 256 = _
  omega
theorem nb_wrap {v : Vl} (h : checkV v = 0) (hk : v.k = 1) : IntKind.u8.wrap v.n = ((nb v).toNat : Int) := by
  have := check_bool h hk
  rw [nb_nat h hk]
  show v.n % 256 = _
  omega
theorem uN_int {v : Vl} (h : v.Ok) : ((uN v : Nat) : Int) = v.n + 9223372036854775808 := by have := h.n1; unfold uN; omega
theorem shr_at {u k : Nat} (hk : k ≤ 7) : (u : Int).fdiv (2 ^ min ((56 : Int) - 8 * (k : Int)).toNat IntKind.u64.bits) = ((u / 256 ^ (7 - k) : Nat) : Int) := by
  have e1 : min ((56 : Int) - 8 * (k : Int)).toNat IntKind.u64.bits = 8 * (7 - k) := by
    show min _ 64 = _
    omega
  have e3 : (2 ^ (8 * (7 - k)) : Nat) = 256 ^ (7 - k) := by rw [Nat.pow_mul]
  have e2 : ((2 : Int) ^ (8 * (7 - k))) = ((256 ^ (7 - k) : Nat) : Int) := by
    rw [← e3, Int.natCast_pow]; rfl
  rw [e1, e2]
  exact (Int.ofNat_fdiv _ _).symm
theorem u8_wrap (x : Nat) : IntKind.u8.wrap (x : Int) = ((UInt8.ofNat x).toNat : Int) := by
  rw [UInt8.toNat_ofNat']
  show (x : Int) % 256 = _
  omega
theorem be_step {u k : Nat} (hk : k ≤ 7) : (be8 u).take k ++ [beAt u k] = (be8 u).take (k + 1) := by
  have hl : k < (be8 u).length := by simp [be8]; omega
  rw [List.take_succ_eq_append_getElem hl]
  congr 2
  simp [be8]
theorem be_len (u : Nat) : (be8 u).length = 8 := by simp [be8]
theorem esc_len (s : List UInt8) : (escL s).length ≤ 2 * s.length := by
  induction s with
  | nil => simp [escL]
  | cons b l ih =>
    unfold escL at ih ⊢
    rw [List.flatMap_cons, List.length_append, List.length_cons]
    split <;> simp only [List.length_cons, List.length_nil] <;> omega
theorem enc_len {v : Vl} (h : checkV v = 0) : (encV v).length ≤ 43 := by
  unfold encV payV
  rw [List.length_cons]
  split
  · simp
  · split
    · rw [be_len]; omega
    · split
      · rename_i hk
        have h1 := check_text h hk
        have h2 := esc_len v.s.data.toList
        rw [str_len] at h2
        rw [List.length_append]; simp; omega
      · simp
theorem encL_len : ∀ {l : List Vl}, (∀ v ∈ l, checkV v = 0) → (encL l).length ≤ 43 * l.length
  | [], _ => Nat.le_refl _
  | v :: r, h => by
    have h1 := enc_len (h v List.mem_cons_self)
    have h2 := encL_len (l := r) fun x hx => h x (List.mem_cons_of_mem _ hx)
    unfold encL at h2 ⊢
    rw [List.flatMap_cons, List.length_append, List.length_cons]
    omega
theorem encL_step {l : List Vl} {i : Nat} (hi : i < l.length) : encL (l.take i) ++ encV l[i] = encL (l.take (i + 1)) := by
  unfold encL
  rw [List.take_succ_eq_append_getElem hi, List.flatMap_append]
  simp
theorem pay_1 {v : Vl} (h : v.k = 1) : payV v = [nb v] := if_pos h
theorem pay_2 {v : Vl} (h : v.k = 2) : payV v = be8 (uN v) := by unfold payV; rw [if_neg (by omega), if_pos h]
theorem pay_3 {v : Vl} (h : v.k = 3) : payV v = escL v.s.data.toList ++ [0, 0] := by unfold payV; rw [if_neg (by omega), if_neg (by omega), if_pos h]
theorem pay_0 {v : Vl} (h1 : ¬ v.k = 1) (h2 : ¬ v.k = 2) (h3 : ¬ v.k = 3) : payV v = [] := by unfold payV; rw [if_neg h1, if_neg h2, if_neg h3]
theorem esc_repl (s : ByteArray) : (replS 0 [0, 255] s).data.toList = escL s.data.toList := rfl

theorem info5_Cd1 : (Tryd.prog.info? 5).map (fun i => (i.zero, i.size, i.bytes)) = some (some (.int .u8 0), 1, 1) := by kernel_rfl

set_option maxHeartbeats 4000000 in
set_option maxRecDepth 100000 in
theorem enc_vp (hG : (3, [Value.int .i64 m]) ∈ G) (l : List Vl) (hl : l.length ≤ maxLen) (hok : ∀ v ∈ l, v.Ok) : VP Tryd.prog G 14 [.list 3 (l.flatMap cV) l.length] (encD (encR l)) := by
  refine VC.body Tryd.func14 rfl Tryd.ntmps14 (Nat.le_of_ble_eq_true rfl) fun X0 w0 S00 => ?_
  refine CD.seq ?_
  refine CD.region ?_
  refine OD.still (wants_plain rfl) rfl (still_as rfl opd_const) ?_
  refine OD.still (wants_plain rfl) rfl (still_as rfl opd_const) ?_
  refine OD.wk (Wk.as_ (n := 72) (l' := [(0, _)]) (S' := []) rfl rfl ⟨lk, trivial⟩) ?_
  refine OD.nil ?_
  refine CD.seq ?_
  refine CD.seq ?_
  refine CD.region ?_
  refine OD.still (wants_plain rfl) rfl (still_mv rfl ot) ?_
  refine OD.still (wants_plain rfl) rfl (still_r1 (mk := fun y => .call { callee := .builtin .len, args := #[y], argTypes := #[23] }) rfl ot (by first | exact len_list rfl Tryd.runUnderlying23 | exact len_row rfl Tryd.runUnderlying23)) ?_
  refine OD.still (wants_plain rfl) rfl (still_bin rfl ot opd_const bin_gtr) ?_
  refine OD.wk (Wk.as_ (n := 72) (l' := [(0, _), (12, _)]) (S' := []) rfl rfl ⟨lk, lk, trivial⟩) ?_
  refine OD.nil ?_
  refine CD.cond ot (fun hc0 => ?_) (fun hc0 => ?_)
  · have hc0' := hc0
    (try simp only [decide_eq_true_eq, decide_eq_false_iff_not, beq_iff_eq, bne_iff_ne, Bool.not_eq_true', Bool.not_eq_false', Bool.not_eq_true, Bool.not_eq_false, beq_eq_false_iff_ne, ne_eq, bne_eq_false_iff_eq, Bool.and_eq_true, Bool.or_eq_true, Bool.not_not, Bool.and_eq_false_iff, Bool.or_eq_false_iff, Int.not_lt, Int.not_le] at hc0')
    have hres : encR l = ([], 1) := if_pos (by omega)
    refine CD.seq ?_
    refine CD.region ?_
    refine OD.still (wants_plain rfl) rfl (still_as rfl opd_const) ?_
    refine OD.still (wants_plain rfl) rfl (still_as rfl opd_const) ?_
    refine OD.wk (Wk.as_ (n := 72) (l' := [(2, _), (3, _)]) (S' := []) rfl rfl ⟨lk, lk, trivial⟩) ?_
    refine OD.nil ?_
    refine CD.wk (Wk.giveNil (t := 2) (sz := 1) lk) ?_
    refine CD.ret ?_
    refine ⟨.inr rfl, _, [], List.nil_sublist _, ret_two Tryd.results14 (res_tmp (Nat.le_of_ble_eq_true rfl) lk) (res_tmp (Nat.le_of_ble_eq_true rfl) lk), ?_⟩
    first | (rw [hres]; exact ⟨rfl, rfl⟩) | (rw [hres, ← htk]; exact ⟨rfl, rfl⟩)
  · have hc0' := hc0
    (try simp only [decide_eq_true_eq, decide_eq_false_iff_not, beq_iff_eq, bne_iff_ne, Bool.not_eq_true', Bool.not_eq_false', Bool.not_eq_true, Bool.not_eq_false, beq_eq_false_iff_ne, ne_eq, bne_eq_false_iff_eq, Bool.and_eq_true, Bool.or_eq_true, Bool.not_not, Bool.and_eq_false_iff, Bool.or_eq_false_iff, Int.not_lt, Int.not_le] at hc0')
    have h6 : l.length ≤ 6 := by omega
    refine CD.skip ?_
    refine CD.seq ?_
    refine CD.region ?_
    refine OD.still (wants_plain rfl) rfl (still_as rfl opd_const) ?_
    refine OD.wk (Wk.as_ (n := 72) (l' := [(0, _), (4, _)]) (S' := ([])) rfl rfl ⟨lk, lk, trivial⟩) ?_
    refine OD.nil ?_
    refine CD.seq ?_
    refine CD.seq ?_
    refine CD.region ?_
    refine OD.still (wants_plain rfl) rfl (still_mv rfl ot) ?_
    refine OD.still (wants_plain rfl) rfl (still_r1 (mk := fun y => .call { callee := .builtin .len, args := #[y], argTypes := #[23] }) rfl ot (by first | exact len_list rfl Tryd.runUnderlying23 | exact len_row rfl Tryd.runUnderlying23)) ?_
    refine OD.still (wants_plain rfl) rfl (still_mv rfl opd_const) ?_
    refine OD.wk (Wk.as_ (n := 72) (l' := [(4, _), (13, _), (14, _), (15, _)]) (S' := ([])) rfl rfl ⟨lk, lk, lk, lk, trivial⟩) ?_
    refine OD.nil ?_
    refine CD.block ?_
    refine CD.wk (Wk.asS (n := 72) (l' := [(4, .v (.slice none (encL (l.take (0))).length (0))), (13, .list 3 (l.flatMap cV) l.length), (14, .v (.int .i64 l.length)), (15, .v (.int .i64 ((0) : Nat)))]) (S' := (([]))) rfl (by repeat (first | exact List.Sublist.refl _ | apply List.Sublist.cons_cons | apply List.Sublist.cons)) ⟨(by (repeat (first | exact look_hit | (apply look_at; focus (first | rfl | (simp; done) | (congr 2; omega) | (apply row_eq; rw [← encL_step hlt]; unfold encV; first | (rw [pay_1 (by assumption)]; simp; done) | (rw [pay_2 (by assumption), List.take_of_length_le (l := be8 (uN l[i])) (by rw [be_len]; omega)]; simp; done) | (rw [pay_3 (by assumption), ← esc_repl]; simp; done) | (rw [pay_0 (by assumption) (by assumption) (by assumption)]; done)) | (apply row_eq; rfl) | (apply row_eq; simp; done))) | (apply look_miss; focus rfl))); done), (by (repeat (first | exact look_hit | (apply look_at; focus (first | rfl | (simp; done) | (congr 2; omega) | (apply row_eq; rw [← encL_step hlt]; unfold encV; first | (rw [pay_1 (by assumption)]; simp; done) | (rw [pay_2 (by assumption), List.take_of_length_le (l := be8 (uN l[i])) (by rw [be_len]; omega)]; simp; done) | (rw [pay_3 (by assumption), ← esc_repl]; simp; done) | (rw [pay_0 (by assumption) (by assumption) (by assumption)]; done)) | (apply row_eq; rfl) | (apply row_eq; simp; done))) | (apply look_miss; focus rfl))); done), (by (repeat (first | exact look_hit | (apply look_at; focus (first | rfl | (simp; done) | (congr 2; omega) | (apply row_eq; rw [← encL_step hlt]; unfold encV; first | (rw [pay_1 (by assumption)]; simp; done) | (rw [pay_2 (by assumption), List.take_of_length_le (l := be8 (uN l[i])) (by rw [be_len]; omega)]; simp; done) | (rw [pay_3 (by assumption), ← esc_repl]; simp; done) | (rw [pay_0 (by assumption) (by assumption) (by assumption)]; done)) | (apply row_eq; rfl) | (apply row_eq; simp; done))) | (apply look_miss; focus rfl))); done), (by (repeat (first | exact look_hit | (apply look_at; focus (first | rfl | (simp; done) | (congr 2; omega) | (apply row_eq; rw [← encL_step hlt]; unfold encV; first | (rw [pay_1 (by assumption)]; simp; done) | (rw [pay_2 (by assumption), List.take_of_length_le (l := be8 (uN l[i])) (by rw [be_len]; omega)]; simp; done) | (rw [pay_3 (by assumption), ← esc_repl]; simp; done) | (rw [pay_0 (by assumption) (by assumption) (by assumption)]; done)) | (apply row_eq; rfl) | (apply row_eq; simp; done))) | (apply look_miss; focus rfl))); done), trivial⟩) (CD.loop (fun (gh__ : Nat × Option Addr × Nat × List Blk) y__ => match gh__ with | (i, adb, cpb, Sb) => (i ≤ l.length) ∧ (∀ v ∈ l.take i, checkV v = 0) ∧ (OwnL 5 1 ((encL (l.take i)).flatMap cB) (encL (l.take i)).length adb cpb Sb) ∧ y__ = (⟨72, [(4, .v (.slice adb (encL (l.take i)).length cpb)), (13, .list 3 (l.flatMap cV) l.length), (14, .v (.int .i64 l.length)), (15, .v (.int .i64 (i : Nat)))], (Sb)⟩ : St)) (fun (gh__ : Nat × Option Addr × Nat × List Blk) => match gh__ with | (i, adb, cpb, Sb) => l.length - i) (0, none, 0, []) ⟨(Nat.zero_le _), (by simp), (OwnL.cast ownL_nil (by rfl)), rfl⟩ ?_)
    rintro ⟨i, adb, cpb, Sb⟩ _ ⟨hi, h0, hob, rfl⟩
    refine CD.seq ?_
    refine CD.region ?_
    refine OD.still (wants_plain rfl) rfl (still_bin rfl ot ot bin_lss) ?_
    refine OD.wk (Wk.as_ (n := 72) (l' := [(4, _), (13, _), (14, _), (15, _), (16, _)]) (S' := (Sb)) rfl rfl ⟨lk, lk, lk, lk, lk, trivial⟩) ?_
    refine OD.nil ?_
    refine CD.seq ?_
    refine CD.cond ot (fun hc1 => ?_) (fun hc1 => ?_)
    · have hc1' := hc1
      (try simp only [decide_eq_true_eq, decide_eq_false_iff_not, beq_iff_eq, bne_iff_ne, Bool.not_eq_true', Bool.not_eq_false', Bool.not_eq_true, Bool.not_eq_false, beq_eq_false_iff_ne, ne_eq, bne_eq_false_iff_eq, Bool.and_eq_true, Bool.or_eq_true, Bool.not_not, Bool.and_eq_false_iff, Bool.or_eq_false_iff, Int.not_lt, Int.not_le] at hc1')
      have hlt : i < l.length := by omega
      have hbl := encL_len h0
      rw [List.length_take] at hbl
      have hmx : maxLen = 9223372036854775807 := rfl
      have hvo := hok _ (List.getElem_mem hlt)
      refine CD.skip ?_
      refine CD.seq ?_
      refine CD.block ?_
      refine CD.seq ?_
      refine CD.region ?_
      refine OD.still (wants_plain rfl) rfl (still_r2 (mk := Op.indexAddr 23) rfl ot ot (by first | exact ix_list Tryd.runUnderlying23 Tryd.sizeOf30 rfl (by first | assumption | omega) | exact ix_list (j := Int.toNat _) Tryd.runUnderlying23 Tryd.sizeOf30 (Int.toNat_of_nonneg (by omega)).symm (by omega) | exact ix_row Tryd.runUnderlying23 Tryd.sizeOf30 rfl (by first | assumption | omega) | exact ix_row (j := Int.toNat _) Tryd.runUnderlying23 Tryd.sizeOf30 (Int.toNat_of_nonneg (by omega)).symm (by omega))) ?_
      refine OD.still (wants_plain rfl) rfl (still_r1 (mk := Op.load 30) rfl ot (by first | exact ld_fms cV_len Tryd.isAgg30 Tryd.sizeOf30 (by first | assumption | omega) | exact ld_is (ds := [_, _, _]) Tryd.isAgg30 Tryd.sizeOf30 rfl rfl)) ?_
      refine OD.alloc (ds := [_, _, _]) (wants_plain rfl) rfl rfl Tryd.zeroValue30 rfl (fun b6 => ?_)
      refine OD.store (k := 0) (cs' := [_, _, _]) (wants_plain rfl) rfl rfl ot rfl rfl ot rfl rfl Tryd.sizeOf30 rfl rfl rfl ?_
      refine OD.wk (Wk.as_ (n := 72) (l' := [(4, _), (6, _), (13, _), (14, _), (15, _)]) (S' := (⟨b6, 30, 3, [_, _, _]⟩ :: Sb)) rfl rfl ⟨lk, lk, lk, lk, lk, trivial⟩) ?_
      refine OD.nil ?_
      refine CD.seq ?_
      refine CD.seq ?_
      refine CD.region ?_
      refine OD.still (wants_plain rfl) rfl (still_r1 (mk := Op.load 30) rfl ot (by first | exact ld_blks (k := 0) (ds := [_, _, _]) rfl rfl Tryd.isAgg30 Tryd.sizeOf30 rfl rfl | exact ld_fms cV_len Tryd.isAgg30 Tryd.sizeOf30 (by first | assumption | omega) | exact ld_rows (k := 0) cV_len rfl rfl rfl Tryd.isAgg30 Tryd.sizeOf30 (by first | assumption | omega) | exact ld_is (ds := [_, _, _]) Tryd.isAgg30 Tryd.sizeOf30 rfl rfl)) ?_
      refine OD.callP (wants_plain rfl) rfl rfl rfl Tryd.call29 (Vl.check_vp l[i]) ⟨ot, trivial⟩ ?_
      refine OD.still (wants_plain rfl) rfl (still_as rfl ot) ?_
      refine OD.wk (Wk.as_ (n := 72) (l' := [(4, _), (6, _), (7, _), (13, _), (14, _), (15, _)]) (S' := (⟨b6, 30, 3, [_, _, _]⟩ :: Sb)) rfl rfl ⟨lk, lk, lk, lk, lk, lk, trivial⟩) ?_
      refine OD.nil ?_
      refine CD.seq ?_
      refine CD.region ?_
      refine OD.still (wants_plain rfl) rfl (still_mv rfl ot) ?_
      refine OD.still (wants_plain rfl) rfl (still_bin rfl ot opd_const bin_neq) ?_
      refine OD.wk (Wk.as_ (n := 72) (l' := [(4, _), (6, _), (7, _), (13, _), (14, _), (15, _), (22, _)]) (S' := (⟨b6, 30, 3, [_, _, _]⟩ :: Sb)) rfl rfl ⟨lk, lk, lk, lk, lk, lk, lk, trivial⟩) ?_
      refine OD.nil ?_
      refine CD.cond ot (fun hc2 => ?_) (fun hc2 => ?_)
      · have hc2' := hc2
        (try simp only [decide_eq_true_eq, decide_eq_false_iff_not, beq_iff_eq, bne_iff_ne, Bool.not_eq_true', Bool.not_eq_false', Bool.not_eq_true, Bool.not_eq_false, beq_eq_false_iff_ne, ne_eq, bne_eq_false_iff_eq, Bool.and_eq_true, Bool.or_eq_true, Bool.not_not, Bool.and_eq_false_iff, Bool.or_eq_false_iff, Int.not_lt, Int.not_le] at hc2')
        have hne : checkV l[i] ≠ 0 := by simpa using hc2
        have hres : encR l = ([], checkV l[i]) := by unfold encR; rw [if_neg (by omega), errV_no hlt h0 hne, if_pos hne]
        refine CD.seq ?_
        refine CD.region ?_
        refine OD.still (wants_plain rfl) rfl (still_mv rfl ot) ?_
        refine OD.still (wants_plain rfl) rfl (still_as rfl opd_const) ?_
        refine OD.still (wants_plain rfl) rfl (still_as rfl ot) ?_
        refine OD.wk (Wk.as_ (n := 72) (l' := [(2, _), (3, _)]) (S' := (⟨b6, 30, 3, [_, _, _]⟩ :: Sb)) rfl rfl ⟨lk, lk, trivial⟩) ?_
        refine OD.nil ?_
        refine CD.wk (Wk.giveNil (t := 2) (sz := 1) lk) ?_
        refine CD.ret ?_
        refine ⟨.inr rfl, _, [], List.nil_sublist _, ret_two Tryd.results14 (res_tmp (Nat.le_of_ble_eq_true rfl) lk) (res_tmp (Nat.le_of_ble_eq_true rfl) lk), ?_⟩
        first | (rw [hres]; exact ⟨rfl, rfl⟩) | (rw [hres, ← htk]; exact ⟨rfl, rfl⟩)
      · have hc2' := hc2
        (try simp only [decide_eq_true_eq, decide_eq_false_iff_not, beq_iff_eq, bne_iff_ne, Bool.not_eq_true', Bool.not_eq_false', Bool.not_eq_true, Bool.not_eq_false, beq_eq_false_iff_ne, ne_eq, bne_eq_false_iff_eq, Bool.and_eq_true, Bool.or_eq_true, Bool.not_not, Bool.and_eq_false_iff, Bool.or_eq_false_iff, Int.not_lt, Int.not_le] at hc2')
        have hchk : checkV l[i] = 0 := by simpa using hc2
        refine CD.skip ?_
        refine CD.seq ?_
        refine CD.region ?_
        refine OD.still (wants_plain rfl) rfl (still_mv rfl ot) ?_
        refine OD.still (wants_plain rfl) rfl (still_r1 (mk := fun y => Op.fieldAddr 30 y 0) rfl ot (by first | exact fa_ptr (off := 0) Tryd.runUnderlying30 rfl Tryd.sizeOf3 rfl | exact fa_iptr (off := 0) Tryd.runUnderlying30 rfl Tryd.sizeOf3 rfl)) ?_
        refine OD.still (wants_plain rfl) rfl (still_r1 (mk := Op.load 3) rfl ot (by first | exact ld_blk (k := 0) rfl rfl Tryd.isAgg3 rfl | exact ld_fm cV_len Tryd.isAgg3 (by first | assumption | omega) rfl | exact ld_fm0 cV_len Tryd.isAgg3 (by first | assumption | omega) rfl | exact ld_row (k := 0) cV_len rfl rfl rfl Tryd.isAgg3 (by first | assumption | omega) rfl | exact ld_row0 (k := 0) cV_len rfl rfl rfl Tryd.isAgg3 (by first | assumption | omega) rfl | exact ld_i Tryd.isAgg3 rfl)) ?_
        refine OD.still (wants_plain rfl) rfl (still_conv (r := .int .u8 ((kb l[i]).toNat : Int)) rfl ot (conv_int Tryd.runUnderlying3 Tryd.runUnderlying5 (kb_wrap hchk))) ?_
        refine OD.bldS (pl := [(0, _)]) (zvs := [.int .u8 0]) (ds := [_]) (wants_plain rfl) rfl rfl Tryd.zeroValue5 Tryd.runUnderlying25 Tryd.sizeOf5 rfl rfl (by kernel_rfl) ⟨rfl, ot, trivial⟩ rfl rfl (fun b28 => ?_)
        refine OD.give (k := 0) (t := 28) (sz := 1) (m := 1) rfl lk rfl rfl rfl (Nat.le_refl _) (by decide) ?_
        refine OD.appendG (ls := (encL (l.take i))) (new := [kb l[i]]) (Sq := Sb) cB_len cB_one (wants_plain rfl) rfl rfl Tryd.underlying25 info5_Cd1 rfl (by decide) ot hob (perm_r11 (A := [_])) ot (by simp) (by have hmx : maxLen = 9223372036854775807 := rfl; (try simp only [List.length_append, List.length_cons, List.length_nil, List.length_take, be_len]); omega) (by have hmx : maxLen = 9223372036854775807 := rfl; (try simp only [List.length_append, List.length_cons, List.length_nil, List.length_take, be_len]); omega) (fun b29 cp29 h129 h229 => ?_)
        refine OD.perm (perm_q11 (S1 := [⟨b29, 5, cp29 * 1, List.flatMap cB ((encL (l.take i)) ++ [kb l[i]])⟩]) (A := [_])) ?_
        refine OD.still (wants_plain rfl) rfl (still_as rfl ot) ?_
        refine OD.wk (Wk.as_ (n := 72) (l' := [(4, _), (6, _), (13, _), (14, _), (15, _)]) (S' := (⟨b6, 30, 3, [_, _, _]⟩ :: [⟨b29, 5, cp29 * 1, List.flatMap cB ((encL (l.take i)) ++ [kb l[i]])⟩])) rfl rfl ⟨lk, lk, lk, lk, lk, trivial⟩) ?_
        refine OD.nil ?_
        refine CD.seq ?_
        refine CD.region ?_
        refine OD.still (wants_plain rfl) rfl (still_r1 (mk := fun y => Op.fieldAddr 30 y 0) rfl ot (by first | exact fa_ptr (off := 0) Tryd.runUnderlying30 rfl Tryd.sizeOf3 rfl | exact fa_iptr (off := 0) Tryd.runUnderlying30 rfl Tryd.sizeOf3 rfl)) ?_
        refine OD.still (wants_plain rfl) rfl (still_r1 (mk := Op.load 3) rfl ot (by first | exact ld_blk (k := 0) rfl rfl Tryd.isAgg3 rfl | exact ld_fm cV_len Tryd.isAgg3 (by first | assumption | omega) rfl | exact ld_fm0 cV_len Tryd.isAgg3 (by first | assumption | omega) rfl | exact ld_row (k := 0) cV_len rfl rfl rfl Tryd.isAgg3 (by first | assumption | omega) rfl | exact ld_row0 (k := 0) cV_len rfl rfl rfl Tryd.isAgg3 (by first | assumption | omega) rfl | exact ld_i Tryd.isAgg3 rfl)) ?_
        refine OD.wk (Wk.as_ (n := 72) (l' := [(4, _), (6, _), (13, _), (14, _), (15, _), (31, _)]) (S' := (⟨b6, 30, 3, [_, _, _]⟩ :: [⟨b29, 5, cp29 * 1, List.flatMap cB ((encL (l.take i)) ++ [kb l[i]])⟩])) rfl rfl ⟨lk, lk, lk, lk, lk, lk, trivial⟩) ?_
        refine OD.nil ?_
        refine CD.block ?_
        refine CD.seq ?_
        refine CD.region ?_
        refine OD.still (wants_plain rfl) rfl (still_bin rfl ot opd_const bin_eql) ?_
        refine OD.still (wants_plain rfl) rfl (still_as rfl ot) ?_
        refine OD.wk (Wk.as_ (n := 72) (l' := [(4, _), (6, _), (13, _), (14, _), (15, _), (31, _), (32, _)]) (S' := (⟨b6, 30, 3, [_, _, _]⟩ :: [⟨b29, 5, cp29 * 1, List.flatMap cB ((encL (l.take i)) ++ [kb l[i]])⟩])) rfl rfl ⟨lk, lk, lk, lk, lk, lk, lk, trivial⟩) ?_
        refine OD.nil ?_
        refine CD.cond ot (fun hc3 => ?_) (fun hc3 => ?_)
        · have hc3' := hc3
          (try simp only [decide_eq_true_eq, decide_eq_false_iff_not, beq_iff_eq, bne_iff_ne, Bool.not_eq_true', Bool.not_eq_false', Bool.not_eq_true, Bool.not_eq_false, beq_eq_false_iff_ne, ne_eq, bne_eq_false_iff_eq, Bool.and_eq_true, Bool.or_eq_true, Bool.not_not, Bool.and_eq_false_iff, Bool.or_eq_false_iff, Int.not_lt, Int.not_le] at hc3')
          have hk1 : l[i].k = 1 := by simpa using hc3
          refine CD.region ?_
          refine OD.still (wants_plain rfl) rfl (still_mv rfl ot) ?_
          refine OD.still (wants_plain rfl) rfl (still_r1 (mk := fun y => Op.fieldAddr 30 y 1) rfl ot (by first | exact fa_ptr (off := 1) Tryd.runUnderlying30 rfl Tryd.sizeOf3 rfl | exact fa_iptr (off := 1) Tryd.runUnderlying30 rfl Tryd.sizeOf3 rfl)) ?_
          refine OD.still (wants_plain rfl) rfl (still_r1 (mk := Op.load 3) rfl ot (by first | exact ld_blk (k := 0) rfl rfl Tryd.isAgg3 rfl | exact ld_fm cV_len Tryd.isAgg3 (by first | assumption | omega) rfl | exact ld_fm0 cV_len Tryd.isAgg3 (by first | assumption | omega) rfl | exact ld_row (k := 0) cV_len rfl rfl rfl Tryd.isAgg3 (by first | assumption | omega) rfl | exact ld_row0 (k := 0) cV_len rfl rfl rfl Tryd.isAgg3 (by first | assumption | omega) rfl | exact ld_i Tryd.isAgg3 rfl)) ?_
          refine OD.still (wants_plain rfl) rfl (still_conv (r := .int .u8 ((nb l[i]).toNat : Int)) rfl ot (conv_int Tryd.runUnderlying3 Tryd.runUnderlying5 (nb_wrap hchk hk1))) ?_
          refine OD.bldS (pl := [(0, _)]) (zvs := [.int .u8 0]) (ds := [_]) (wants_plain rfl) rfl rfl Tryd.zeroValue5 Tryd.runUnderlying25 Tryd.sizeOf5 rfl rfl (by kernel_rfl) ⟨rfl, ot, trivial⟩ rfl rfl (fun b38 => ?_)
          refine OD.give (k := 0) (t := 38) (sz := 1) (m := 1) rfl lk rfl rfl rfl (Nat.le_refl _) (by decide) ?_
          refine OD.appendG (ls := ((encL (l.take i)) ++ [kb l[i]])) (new := [nb l[i]]) (Sq := [⟨b29, 5, cp29 * 1, List.flatMap cB ((encL (l.take i)) ++ [kb l[i]])⟩]) cB_len cB_one (wants_plain rfl) rfl rfl Tryd.underlying25 info5_Cd1 rfl (by decide) ot (ownL_row h129 h229) (perm_r11 (A := [_])) ot (by simp) (by have hmx : maxLen = 9223372036854775807 := rfl; (try simp only [List.length_append, List.length_cons, List.length_nil, List.length_take, be_len]); omega) (by have hmx : maxLen = 9223372036854775807 := rfl; (try simp only [List.length_append, List.length_cons, List.length_nil, List.length_take, be_len]); omega) (fun b39 cp39 h139 h239 => ?_)
          refine OD.perm (perm_q11 (S1 := [⟨b39, 5, cp39 * 1, List.flatMap cB (((encL (l.take i)) ++ [kb l[i]]) ++ [nb l[i]])⟩]) (A := [_])) ?_
          refine OD.still (wants_plain rfl) rfl (still_as rfl ot) ?_
          refine OD.wk (Wk.as_ (n := 72) (l' := [(4, _), (13, _), (14, _), (15, _)]) (S' := (⟨b6, 30, 3, [_, _, _]⟩ :: [⟨b39, 5, cp39 * 1, List.flatMap cB (((encL (l.take i)) ++ [kb l[i]]) ++ [nb l[i]])⟩])) rfl rfl ⟨lk, lk, lk, lk, trivial⟩) ?_
          refine OD.nil ?_
          refine CD.region ?_
          refine OD.still (wants_plain rfl) rfl (still_bin rfl ot opd_const (bin_add (wrap_i64 (by omega) (by omega)))) ?_
          refine OD.still (wants_plain rfl) rfl (still_mv rfl ot) ?_
          refine OD.wk (Wk.as_ (n := 72) (l' := [(4, _), (13, _), (14, _), (15, _)]) (S' := (⟨b6, 30, 3, [_, _, _]⟩ :: [⟨b39, 5, cp39 * 1, List.flatMap cB (((encL (l.take i)) ++ [kb l[i]]) ++ [nb l[i]])⟩])) rfl rfl ⟨lk, lk, lk, lk, trivial⟩) ?_
          refine OD.nil ?_
          refine ⟨((i + 1), (some ⟨b39, 0, none⟩), cp39, [⟨b39, 5, cp39 * 1, List.flatMap cB (((encL (l.take i)) ++ [kb l[i]]) ++ [nb l[i]])⟩]), ⟨72, [(4, .v (.slice ((some ⟨b39, 0, none⟩)) (encL (l.take ((i + 1)))).length cp39)), (13, .list 3 (l.flatMap cV) l.length), (14, .v (.int .i64 l.length)), (15, .v (.int .i64 (((i + 1)) : Nat)))], (([⟨b39, 5, cp39 * 1, List.flatMap cB (((encL (l.take i)) ++ [kb l[i]]) ++ [nb l[i]])⟩]))⟩, ?_, Wk.asS (n := 72) rfl (by repeat (first | exact List.Sublist.refl _ | apply List.Sublist.cons_cons | apply List.Sublist.cons)) ⟨(by (repeat (first | exact look_hit | (apply look_at; focus (first | rfl | (simp; done) | (congr 2; omega) | (apply row_eq; rw [← encL_step hlt]; unfold encV; first | (rw [pay_1 (by assumption)]; simp; done) | (rw [pay_2 (by assumption), List.take_of_length_le (l := be8 (uN l[i])) (by rw [be_len]; omega)]; simp; done) | (rw [pay_3 (by assumption), ← esc_repl]; simp; done) | (rw [pay_0 (by assumption) (by assumption) (by assumption)]; done)) | (apply row_eq; rfl) | (apply row_eq; simp; done))) | (apply look_miss; focus rfl))); done), (by (repeat (first | exact look_hit | (apply look_at; focus (first | rfl | (simp; done) | (congr 2; omega) | (apply row_eq; rw [← encL_step hlt]; unfold encV; first | (rw [pay_1 (by assumption)]; simp; done) | (rw [pay_2 (by assumption), List.take_of_length_le (l := be8 (uN l[i])) (by rw [be_len]; omega)]; simp; done) | (rw [pay_3 (by assumption), ← esc_repl]; simp; done) | (rw [pay_0 (by assumption) (by assumption) (by assumption)]; done)) | (apply row_eq; rfl) | (apply row_eq; simp; done))) | (apply look_miss; focus rfl))); done), (by (repeat (first | exact look_hit | (apply look_at; focus (first | rfl | (simp; done) | (congr 2; omega) | (apply row_eq; rw [← encL_step hlt]; unfold encV; first | (rw [pay_1 (by assumption)]; simp; done) | (rw [pay_2 (by assumption), List.take_of_length_le (l := be8 (uN l[i])) (by rw [be_len]; omega)]; simp; done) | (rw [pay_3 (by assumption), ← esc_repl]; simp; done) | (rw [pay_0 (by assumption) (by assumption) (by assumption)]; done)) | (apply row_eq; rfl) | (apply row_eq; simp; done))) | (apply look_miss; focus rfl))); done), (by (repeat (first | exact look_hit | (apply look_at; focus (first | rfl | (simp; done) | (congr 2; omega) | (apply row_eq; rw [← encL_step hlt]; unfold encV; first | (rw [pay_1 (by assumption)]; simp; done) | (rw [pay_2 (by assumption), List.take_of_length_le (l := be8 (uN l[i])) (by rw [be_len]; omega)]; simp; done) | (rw [pay_3 (by assumption), ← esc_repl]; simp; done) | (rw [pay_0 (by assumption) (by assumption) (by assumption)]; done)) | (apply row_eq; rfl) | (apply row_eq; simp; done))) | (apply look_miss; focus rfl))); done), trivial⟩, (by omega), (all_step hlt h0 hchk), (OwnL.cast (ownL_row h139 h239) (by rw [← encL_step hlt]; unfold encV; first | (rw [pay_1 (by assumption)]; simp; done) | (rw [pay_2 (by assumption), List.take_of_length_le (l := be8 (uN l[i])) (by rw [be_len]; omega)]; simp; done) | (rw [pay_3 (by assumption), ← esc_repl]; simp; done) | (rw [pay_0 (by assumption) (by assumption) (by assumption)]; done))), rfl⟩
          first | omega | (simp only []; omega)
        · have hc3' := hc3
          (try simp only [decide_eq_true_eq, decide_eq_false_iff_not, beq_iff_eq, bne_iff_ne, Bool.not_eq_true', Bool.not_eq_false', Bool.not_eq_true, Bool.not_eq_false, beq_eq_false_iff_ne, ne_eq, bne_eq_false_iff_eq, Bool.and_eq_true, Bool.or_eq_true, Bool.not_not, Bool.and_eq_false_iff, Bool.or_eq_false_iff, Int.not_lt, Int.not_le] at hc3')
          have hk1 : ¬ l[i].k = 1 := by simpa using hc3
          refine CD.seq ?_
          refine CD.region ?_
          refine OD.still (wants_plain rfl) rfl (still_bin rfl ot opd_const bin_eql) ?_
          refine OD.still (wants_plain rfl) rfl (still_as rfl ot) ?_
          refine OD.wk (Wk.as_ (n := 72) (l' := [(4, _), (6, _), (13, _), (14, _), (15, _), (31, _), (40, _)]) (S' := (⟨b6, 30, 3, [_, _, _]⟩ :: [⟨b29, 5, cp29 * 1, List.flatMap cB ((encL (l.take i)) ++ [kb l[i]])⟩])) rfl rfl ⟨lk, lk, lk, lk, lk, lk, lk, trivial⟩) ?_
          refine OD.nil ?_
          refine CD.cond ot (fun hc4 => ?_) (fun hc4 => ?_)
          · have hc4' := hc4
            (try simp only [decide_eq_true_eq, decide_eq_false_iff_not, beq_iff_eq, bne_iff_ne, Bool.not_eq_true', Bool.not_eq_false', Bool.not_eq_true, Bool.not_eq_false, beq_eq_false_iff_ne, ne_eq, bne_eq_false_iff_eq, Bool.and_eq_true, Bool.or_eq_true, Bool.not_not, Bool.and_eq_false_iff, Bool.or_eq_false_iff, Int.not_lt, Int.not_le] at hc4')
            have hk2 : l[i].k = 2 := by simpa using hc4
            refine CD.seq ?_
            refine CD.region ?_
            refine OD.still (wants_plain rfl) rfl (still_r1 (mk := fun y => Op.fieldAddr 30 y 1) rfl ot (by first | exact fa_ptr (off := 1) Tryd.runUnderlying30 rfl Tryd.sizeOf3 rfl | exact fa_iptr (off := 1) Tryd.runUnderlying30 rfl Tryd.sizeOf3 rfl)) ?_
            refine OD.still (wants_plain rfl) rfl (still_r1 (mk := Op.load 3) rfl ot (by first | exact ld_blk (k := 0) rfl rfl Tryd.isAgg3 rfl | exact ld_fm cV_len Tryd.isAgg3 (by first | assumption | omega) rfl | exact ld_fm0 cV_len Tryd.isAgg3 (by first | assumption | omega) rfl | exact ld_row (k := 0) cV_len rfl rfl rfl Tryd.isAgg3 (by first | assumption | omega) rfl | exact ld_row0 (k := 0) cV_len rfl rfl rfl Tryd.isAgg3 (by first | assumption | omega) rfl | exact ld_i Tryd.isAgg3 rfl)) ?_
            refine OD.still (wants_plain rfl) rfl (still_conv rfl ot (conv_int Tryd.runUnderlying3 Tryd.runUnderlying68 rfl)) ?_
            refine OD.still (wants_plain rfl) rfl (still_bin (r := .int .u64 ((uN l[i] : Nat) : Int)) rfl ot opd_const (bin_xor (by rw [uN_int hvo]; exact xor_i64 hvo.n1 hvo.n2))) ?_
            refine OD.still (wants_plain rfl) rfl (still_as rfl ot) ?_
            refine OD.wk (Wk.as_ (n := 72) (l' := [(4, _), (8, _), (13, _), (14, _), (15, _)]) (S' := (⟨b6, 30, 3, [_, _, _]⟩ :: [⟨b29, 5, cp29 * 1, List.flatMap cB ((encL (l.take i)) ++ [kb l[i]])⟩])) rfl rfl ⟨lk, lk, lk, lk, lk, trivial⟩) ?_
            refine OD.nil ?_
            refine CD.seq ?_
            refine CD.region ?_
            refine OD.still (wants_plain rfl) rfl (still_as rfl opd_const) ?_
            refine OD.wk (Wk.as_ (n := 72) (l' := [(4, _), (8, _), (9, _), (13, _), (14, _), (15, _)]) (S' := (⟨b6, 30, 3, [_, _, _]⟩ :: [⟨b29, 5, cp29 * 1, List.flatMap cB ((encL (l.take i)) ++ [kb l[i]])⟩])) rfl rfl ⟨lk, lk, lk, lk, lk, lk, trivial⟩) ?_
            refine OD.nil ?_
            refine CD.block ?_
            refine CD.wk (Wk.asS (n := 72) (l' := [(4, .v (.slice ((some ⟨b29, 0, none⟩)) ((encL (l.take i) ++ [kb l[i]]) ++ (be8 (uN l[i])).take (0)).length cp29)), (8, .v (.int .u64 ((uN l[i] : Nat) : Int))), (9, .v (.int .i64 (56 - 8 * ((0) : Int)))), (13, .list 3 (l.flatMap cV) l.length), (14, .v (.int .i64 l.length)), (15, .v (.int .i64 (i : Nat)))]) (S' := (([⟨b29, 5, cp29 * 1, List.flatMap cB ((encL (l.take i)) ++ [kb l[i]])⟩]))) rfl (by repeat (first | exact List.Sublist.refl _ | apply List.Sublist.cons_cons | apply List.Sublist.cons)) ⟨(by (repeat (first | exact look_hit | (apply look_at; focus (first | rfl | (congr 2; omega) | (simp; done) | (apply row_eq; rw [← be_step (by omega)]; simp) | (apply row_eq; simp) | (apply row_eq; simp; done))) | (apply look_miss; focus rfl))); done), (by (repeat (first | exact look_hit | (apply look_at; focus (first | rfl | (congr 2; omega) | (simp; done) | (apply row_eq; rw [← be_step (by omega)]; simp) | (apply row_eq; simp) | (apply row_eq; simp; done))) | (apply look_miss; focus rfl))); done), (by (repeat (first | exact look_hit | (apply look_at; focus (first | rfl | (congr 2; omega) | (simp; done) | (apply row_eq; rw [← be_step (by omega)]; simp) | (apply row_eq; simp) | (apply row_eq; simp; done))) | (apply look_miss; focus rfl))); done), (by (repeat (first | exact look_hit | (apply look_at; focus (first | rfl | (congr 2; omega) | (simp; done) | (apply row_eq; rw [← be_step (by omega)]; simp) | (apply row_eq; simp) | (apply row_eq; simp; done))) | (apply look_miss; focus rfl))); done), (by (repeat (first | exact look_hit | (apply look_at; focus (first | rfl | (congr 2; omega) | (simp; done) | (apply row_eq; rw [← be_step (by omega)]; simp) | (apply row_eq; simp) | (apply row_eq; simp; done))) | (apply look_miss; focus rfl))); done), (by (repeat (first | exact look_hit | (apply look_at; focus (first | rfl | (congr 2; omega) | (simp; done) | (apply row_eq; rw [← be_step (by omega)]; simp) | (apply row_eq; simp) | (apply row_eq; simp; done))) | (apply look_miss; focus rfl))); done), trivial⟩) (CD.loop (fun (gh__ : Nat × Option Addr × Nat × List Blk) y__ => match gh__ with | (k, adb, cpb, Sb) => (k ≤ 8) ∧ (OwnL 5 1 (((encL (l.take i) ++ [kb l[i]]) ++ (be8 (uN l[i])).take k).flatMap cB) ((encL (l.take i) ++ [kb l[i]]) ++ (be8 (uN l[i])).take k).length adb cpb Sb) ∧ y__ = (⟨72, [(4, .v (.slice adb ((encL (l.take i) ++ [kb l[i]]) ++ (be8 (uN l[i])).take k).length cpb)), (8, .v (.int .u64 ((uN l[i] : Nat) : Int))), (9, .v (.int .i64 (56 - 8 * (k : Int)))), (13, .list 3 (l.flatMap cV) l.length), (14, .v (.int .i64 l.length)), (15, .v (.int .i64 (i : Nat)))], (Sb)⟩ : St)) (fun (gh__ : Nat × Option Addr × Nat × List Blk) => match gh__ with | (k, adb, cpb, Sb) => 8 - k) (0, (some ⟨b29, 0, none⟩), cp29, [⟨b29, 5, cp29 * 1, List.flatMap cB ((encL (l.take i)) ++ [kb l[i]])⟩]) ⟨(by decide), (OwnL.cast (ownL_row h129 h229) (by simp)), rfl⟩ ?_)
            rintro ⟨k, adb, cpb, Sb⟩ _ ⟨hk8, hob, rfl⟩
            refine CD.seq ?_
            refine CD.seq ?_
            refine CD.region ?_
            refine OD.still (wants_plain rfl) rfl (still_mv rfl ot) ?_
            refine OD.still (wants_plain rfl) rfl (still_bin rfl ot opd_const bin_geq) ?_
            refine OD.wk (Wk.as_ (n := 72) (l' := [(4, _), (8, _), (9, _), (13, _), (14, _), (15, _), (47, _)]) (S' := (Sb)) rfl rfl ⟨lk, lk, lk, lk, lk, lk, lk, trivial⟩) ?_
            refine OD.nil ?_
            refine CD.cond ot (fun hc5 => ?_) (fun hc5 => ?_)
            · have hc5' := hc5
              (try simp only [decide_eq_true_eq, decide_eq_false_iff_not, beq_iff_eq, bne_iff_ne, Bool.not_eq_true', Bool.not_eq_false', Bool.not_eq_true, Bool.not_eq_false, beq_eq_false_iff_ne, ne_eq, bne_eq_false_iff_eq, Bool.and_eq_true, Bool.or_eq_true, Bool.not_not, Bool.and_eq_false_iff, Bool.or_eq_false_iff, Int.not_lt, Int.not_le] at hc5')
              have hk7 : k ≤ 7 := by omega
              refine CD.skip ?_
              refine CD.seq ?_
              refine CD.block ?_
              refine CD.region ?_
              refine OD.still (wants_plain rfl) rfl (still_mv rfl ot) ?_
              refine OD.still (wants_plain rfl) rfl (still_mv rfl ot) ?_
              refine OD.still (wants_plain rfl) rfl (still_mv rfl ot) ?_
              refine OD.still (wants_plain rfl) rfl (still_bin (r := .int .u64 ((uN l[i] / 256 ^ (7 - k) : Nat) : Int)) rfl ot ot (bin_shr (by omega) (shr_at hk7))) ?_
              refine OD.still (wants_plain rfl) rfl (still_conv (r := .int .u8 ((beAt (uN l[i]) k).toNat : Int)) rfl ot (conv_int Tryd.runUnderlying68 Tryd.runUnderlying5 (u8_wrap _))) ?_
              refine OD.bldS (pl := [(0, _)]) (zvs := [.int .u8 0]) (ds := [_]) (wants_plain rfl) rfl rfl Tryd.zeroValue5 Tryd.runUnderlying25 Tryd.sizeOf5 rfl rfl (by kernel_rfl) ⟨rfl, ot, trivial⟩ rfl rfl (fun b55 => ?_)
              refine OD.give (k := 0) (t := 55) (sz := 1) (m := 1) rfl lk rfl rfl rfl (Nat.le_refl _) (by decide) ?_
              refine OD.appendG (ls := ((encL (l.take i) ++ [kb l[i]]) ++ (be8 (uN l[i])).take k)) (new := [beAt (uN l[i]) k]) (Sq := Sb) cB_len cB_one (wants_plain rfl) rfl rfl Tryd.underlying25 info5_Cd1 rfl (by decide) ot hob (perm_r11 (A := [])) ot (by simp) (by have hmx : maxLen = 9223372036854775807 := rfl; (try simp only [List.length_append, List.length_cons, List.length_nil, List.length_take, be_len]); omega) (by have hmx : maxLen = 9223372036854775807 := rfl; (try simp only [List.length_append, List.length_cons, List.length_nil, List.length_take, be_len]); omega) (fun b56 cp56 h156 h256 => ?_)
              refine OD.perm (perm_q11 (S1 := [⟨b56, 5, cp56 * 1, List.flatMap cB (((encL (l.take i) ++ [kb l[i]]) ++ (be8 (uN l[i])).take k) ++ [beAt (uN l[i]) k])⟩]) (A := [])) ?_
              refine OD.still (wants_plain rfl) rfl (still_as rfl ot) ?_
              refine OD.wk (Wk.as_ (n := 72) (l' := [(4, _), (8, _), (9, _), (13, _), (14, _), (15, _)]) (S' := ([⟨b56, 5, cp56 * 1, List.flatMap cB (((encL (l.take i) ++ [kb l[i]]) ++ (be8 (uN l[i])).take k) ++ [beAt (uN l[i]) k])⟩])) rfl rfl ⟨lk, lk, lk, lk, lk, lk, trivial⟩) ?_
              refine OD.nil ?_
              refine CD.region ?_
              refine OD.still (wants_plain rfl) rfl (still_mv rfl ot) ?_
              refine OD.still (wants_plain rfl) rfl (still_bin rfl ot opd_const (bin_sub (wrap_i64 (by omega) (by omega)))) ?_
              refine OD.still (wants_plain rfl) rfl (still_as rfl ot) ?_
              refine OD.wk (Wk.as_ (n := 72) (l' := [(4, _), (8, _), (9, _), (13, _), (14, _), (15, _)]) (S' := ([⟨b56, 5, cp56 * 1, List.flatMap cB (((encL (l.take i) ++ [kb l[i]]) ++ (be8 (uN l[i])).take k) ++ [beAt (uN l[i]) k])⟩])) rfl rfl ⟨lk, lk, lk, lk, lk, lk, trivial⟩) ?_
              refine OD.nil ?_
              refine ⟨((k + 1), (some ⟨b56, 0, none⟩), cp56, [⟨b56, 5, cp56 * 1, List.flatMap cB (((encL (l.take i) ++ [kb l[i]]) ++ (be8 (uN l[i])).take k) ++ [beAt (uN l[i]) k])⟩]), ⟨72, [(4, .v (.slice ((some ⟨b56, 0, none⟩)) ((encL (l.take i) ++ [kb l[i]]) ++ (be8 (uN l[i])).take ((k + 1))).length cp56)), (8, .v (.int .u64 ((uN l[i] : Nat) : Int))), (9, .v (.int .i64 (56 - 8 * (((k + 1)) : Int)))), (13, .list 3 (l.flatMap cV) l.length), (14, .v (.int .i64 l.length)), (15, .v (.int .i64 (i : Nat)))], (([⟨b56, 5, cp56 * 1, List.flatMap cB (((encL (l.take i) ++ [kb l[i]]) ++ (be8 (uN l[i])).take k) ++ [beAt (uN l[i]) k])⟩]))⟩, ?_, Wk.asS (n := 72) rfl (by repeat (first | exact List.Sublist.refl _ | apply List.Sublist.cons_cons | apply List.Sublist.cons)) ⟨(by (repeat (first | exact look_hit | (apply look_at; focus (first | rfl | (congr 2; omega) | (simp; done) | (apply row_eq; rw [← be_step (by omega)]; simp) | (apply row_eq; simp) | (apply row_eq; simp; done))) | (apply look_miss; focus rfl))); done), (by (repeat (first | exact look_hit | (apply look_at; focus (first | rfl | (congr 2; omega) | (simp; done) | (apply row_eq; rw [← be_step (by omega)]; simp) | (apply row_eq; simp) | (apply row_eq; simp; done))) | (apply look_miss; focus rfl))); done), (by (repeat (first | exact look_hit | (apply look_at; focus (first | rfl | (congr 2; omega) | (simp; done) | (apply row_eq; rw [← be_step (by omega)]; simp) | (apply row_eq; simp) | (apply row_eq; simp; done))) | (apply look_miss; focus rfl))); done), (by (repeat (first | exact look_hit | (apply look_at; focus (first | rfl | (congr 2; omega) | (simp; done) | (apply row_eq; rw [← be_step (by omega)]; simp) | (apply row_eq; simp) | (apply row_eq; simp; done))) | (apply look_miss; focus rfl))); done), (by (repeat (first | exact look_hit | (apply look_at; focus (first | rfl | (congr 2; omega) | (simp; done) | (apply row_eq; rw [← be_step (by omega)]; simp) | (apply row_eq; simp) | (apply row_eq; simp; done))) | (apply look_miss; focus rfl))); done), (by (repeat (first | exact look_hit | (apply look_at; focus (first | rfl | (congr 2; omega) | (simp; done) | (apply row_eq; rw [← be_step (by omega)]; simp) | (apply row_eq; simp) | (apply row_eq; simp; done))) | (apply look_miss; focus rfl))); done), trivial⟩, (by omega), (OwnL.cast (ownL_row h156 h256) (by rw [← be_step (by omega)]; simp)), rfl⟩
              first | omega | (simp only []; omega)
            · have hc5' := hc5
              (try simp only [decide_eq_true_eq, decide_eq_false_iff_not, beq_iff_eq, bne_iff_ne, Bool.not_eq_true', Bool.not_eq_false', Bool.not_eq_true, Bool.not_eq_false, beq_eq_false_iff_ne, ne_eq, bne_eq_false_iff_eq, Bool.and_eq_true, Bool.or_eq_true, Bool.not_not, Bool.and_eq_false_iff, Bool.or_eq_false_iff, Int.not_lt, Int.not_le] at hc5')
              have hk88 : k = 8 := by omega
              have hk8n : 8 ≤ k := by omega
              refine CD.exit ?_
              refine CD.region ?_
              refine OD.still (wants_plain rfl) rfl (still_bin rfl ot opd_const (bin_add (wrap_i64 (by omega) (by omega)))) ?_
              refine OD.still (wants_plain rfl) rfl (still_mv rfl ot) ?_
              refine OD.wk (Wk.as_ (n := 72) (l' := [(4, _), (13, _), (14, _), (15, _)]) (S' := (Sb)) rfl rfl ⟨lk, lk, lk, lk, trivial⟩) ?_
              refine OD.nil ?_
              refine ⟨((i + 1), adb, cpb, Sb), ⟨72, [(4, .v (.slice adb (encL (l.take ((i + 1)))).length cpb)), (13, .list 3 (l.flatMap cV) l.length), (14, .v (.int .i64 l.length)), (15, .v (.int .i64 (((i + 1)) : Nat)))], (Sb)⟩, ?_, Wk.asS (n := 72) rfl (by repeat (first | exact List.Sublist.refl _ | apply List.Sublist.cons_cons | apply List.Sublist.cons)) ⟨(by (repeat (first | exact look_hit | (apply look_at; focus (first | rfl | (simp; done) | (congr 2; omega) | (apply row_eq; rw [← encL_step hlt]; unfold encV; first | (rw [pay_1 (by assumption)]; simp; done) | (rw [pay_2 (by assumption), List.take_of_length_le (l := be8 (uN l[i])) (by rw [be_len]; omega)]; simp; done) | (rw [pay_3 (by assumption), ← esc_repl]; simp; done) | (rw [pay_0 (by assumption) (by assumption) (by assumption)]; done)) | (apply row_eq; rfl) | (apply row_eq; simp; done))) | (apply look_miss; focus rfl))); done), (by (repeat (first | exact look_hit | (apply look_at; focus (first | rfl | (simp; done) | (congr 2; omega) | (apply row_eq; rw [← encL_step hlt]; unfold encV; first | (rw [pay_1 (by assumption)]; simp; done) | (rw [pay_2 (by assumption), List.take_of_length_le (l := be8 (uN l[i])) (by rw [be_len]; omega)]; simp; done) | (rw [pay_3 (by assumption), ← esc_repl]; simp; done) | (rw [pay_0 (by assumption) (by assumption) (by assumption)]; done)) | (apply row_eq; rfl) | (apply row_eq; simp; done))) | (apply look_miss; focus rfl))); done), (by (repeat (first | exact look_hit | (apply look_at; focus (first | rfl | (simp; done) | (congr 2; omega) | (apply row_eq; rw [← encL_step hlt]; unfold encV; first | (rw [pay_1 (by assumption)]; simp; done) | (rw [pay_2 (by assumption), List.take_of_length_le (l := be8 (uN l[i])) (by rw [be_len]; omega)]; simp; done) | (rw [pay_3 (by assumption), ← esc_repl]; simp; done) | (rw [pay_0 (by assumption) (by assumption) (by assumption)]; done)) | (apply row_eq; rfl) | (apply row_eq; simp; done))) | (apply look_miss; focus rfl))); done), (by (repeat (first | exact look_hit | (apply look_at; focus (first | rfl | (simp; done) | (congr 2; omega) | (apply row_eq; rw [← encL_step hlt]; unfold encV; first | (rw [pay_1 (by assumption)]; simp; done) | (rw [pay_2 (by assumption), List.take_of_length_le (l := be8 (uN l[i])) (by rw [be_len]; omega)]; simp; done) | (rw [pay_3 (by assumption), ← esc_repl]; simp; done) | (rw [pay_0 (by assumption) (by assumption) (by assumption)]; done)) | (apply row_eq; rfl) | (apply row_eq; simp; done))) | (apply look_miss; focus rfl))); done), trivial⟩, (by omega), (all_step hlt h0 hchk), (OwnL.cast hob (by rw [← encL_step hlt]; unfold encV; first | (rw [pay_1 (by assumption)]; simp; done) | (rw [pay_2 (by assumption), List.take_of_length_le (l := be8 (uN l[i])) (by rw [be_len]; omega)]; simp; done) | (rw [pay_3 (by assumption), ← esc_repl]; simp; done) | (rw [pay_0 (by assumption) (by assumption) (by assumption)]; done))), rfl⟩
              first | omega | (simp only []; omega)
          · have hc4' := hc4
            (try simp only [decide_eq_true_eq, decide_eq_false_iff_not, beq_iff_eq, bne_iff_ne, Bool.not_eq_true', Bool.not_eq_false', Bool.not_eq_true, Bool.not_eq_false, beq_eq_false_iff_ne, ne_eq, bne_eq_false_iff_eq, Bool.and_eq_true, Bool.or_eq_true, Bool.not_not, Bool.and_eq_false_iff, Bool.or_eq_false_iff, Int.not_lt, Int.not_le] at hc4')
            have hk2 : ¬ l[i].k = 2 := by simpa using hc4
            refine CD.seq ?_
            refine CD.region ?_
            refine OD.still (wants_plain rfl) rfl (still_bin rfl ot opd_const bin_eql) ?_
            refine OD.still (wants_plain rfl) rfl (still_as rfl ot) ?_
            refine OD.wk (Wk.as_ (n := 72) (l' := [(4, _), (6, _), (13, _), (14, _), (15, _), (57, _)]) (S' := (⟨b6, 30, 3, [_, _, _]⟩ :: [⟨b29, 5, cp29 * 1, List.flatMap cB ((encL (l.take i)) ++ [kb l[i]])⟩])) rfl rfl ⟨lk, lk, lk, lk, lk, lk, trivial⟩) ?_
            refine OD.nil ?_
            refine CD.cond ot (fun hc6 => ?_) (fun hc6 => ?_)
            · have hc6' := hc6
              (try simp only [decide_eq_true_eq, decide_eq_false_iff_not, beq_iff_eq, bne_iff_ne, Bool.not_eq_true', Bool.not_eq_false', Bool.not_eq_true, Bool.not_eq_false, beq_eq_false_iff_ne, ne_eq, bne_eq_false_iff_eq, Bool.and_eq_true, Bool.or_eq_true, Bool.not_not, Bool.and_eq_false_iff, Bool.or_eq_false_iff, Int.not_lt, Int.not_le] at hc6')
              have hk3 : l[i].k = 3 := by simpa using hc6
              have hts := check_text hchk hk3
              have hel := esc_len l[i].s.data.toList
              rw [str_len] at hel
              have hrs : (replS 0 [0, 255] l[i].s).size = (escL l[i].s.data.toList).length := by rw [← str_len, esc_repl]
              refine CD.seq ?_
              refine CD.region ?_
              refine OD.still (wants_plain rfl) rfl (still_mv rfl ot) ?_
              refine OD.still (wants_plain rfl) rfl (still_r1 (mk := fun y => Op.fieldAddr 30 y 2) rfl ot (by first | exact fa_ptr (off := 2) Tryd.runUnderlying30 rfl Tryd.sizeOf9 rfl | exact fa_iptr (off := 2) Tryd.runUnderlying30 rfl Tryd.sizeOf9 rfl)) ?_
              refine OD.still (wants_plain rfl) rfl (still_r1 (mk := Op.load 9) rfl ot (by first | exact ld_blk (k := 0) rfl rfl Tryd.isAgg9 rfl | exact ld_fm cV_len Tryd.isAgg9 (by first | assumption | omega) rfl | exact ld_fm0 cV_len Tryd.isAgg9 (by first | assumption | omega) rfl | exact ld_row (k := 0) cV_len rfl rfl rfl Tryd.isAgg9 (by first | assumption | omega) rfl | exact ld_row0 (k := 0) cV_len rfl rfl rfl Tryd.isAgg9 (by first | assumption | omega) rfl | exact ld_i Tryd.isAgg9 rfl)) ?_
              refine OD.callP (wants_plain rfl) rfl rfl rfl Tryd.call30 (repl_vp hG 0 ⟨#[0, 255]⟩ l[i].s (by omega) (by decide)) ⟨ot, opd_const, opd_const, trivial⟩ ?_
              refine OD.appendStrB (ls := ((encL (l.take i)) ++ [kb l[i]])) (Sq := [⟨b29, 5, cp29 * 1, List.flatMap cB ((encL (l.take i)) ++ [kb l[i]])⟩]) (wants_plain rfl) rfl rfl Tryd.underlying25 Tryd.underlying9 info5_Cd1 ot (ownL_row h129 h229) (perm_r11 (A := [_])) ot (by rw [show (replS 0 (⟨#[0, 255]⟩ : ByteArray).data.toList l[i].s).size = (escL l[i].s.data.toList).length from hrs]; simp only [List.length_append, List.length_cons, List.length_nil]; omega) (by rw [show (replS 0 (⟨#[0, 255]⟩ : ByteArray).data.toList l[i].s).size = (escL l[i].s.data.toList).length from hrs]; simp only [List.length_append, List.length_cons, List.length_nil]; omega) (fun ad63 cp63 S63 ho63 => ?_)
              refine OD.perm (perm_q11 (A := [_])) ?_
              refine OD.still (wants_plain rfl) rfl (still_as rfl ot) ?_
              refine OD.wk (Wk.as_ (n := 72) (l' := [(4, _), (13, _), (14, _), (15, _)]) (S' := (⟨b6, 30, 3, [_, _, _]⟩ :: S63)) rfl rfl ⟨lk, lk, lk, lk, trivial⟩) ?_
              refine OD.nil ?_
              refine CD.region ?_
              refine OD.still (wants_plain rfl) rfl (still_mv rfl ot) ?_
              refine OD.bldS (pl := [(0, _), (1, _)]) (zvs := [.int .u8 0, .int .u8 0]) (ds := [_, _]) (wants_plain rfl) rfl rfl Tryd.zeroValue5 Tryd.runUnderlying25 Tryd.sizeOf5 rfl rfl (by kernel_rfl) ⟨rfl, opd_const, rfl, opd_const, trivial⟩ rfl rfl (fun b65 => ?_)
              refine OD.give (k := 0) (t := 65) (sz := 1) (m := 2) rfl lk rfl rfl rfl (Nat.le_refl _) (by decide) ?_
              refine OD.appendG (ls := (((encL (l.take i)) ++ [kb l[i]]) ++ (replS 0 [0, 255] l[i].s).data.toList)) (new := [(0 : UInt8), 0]) (Sq := S63) cB_len cB_one (wants_plain rfl) rfl rfl Tryd.underlying25 info5_Cd1 rfl (by decide) ot ho63 (perm_r11 (A := [_])) ot (by simp) (by rw [esc_repl]; simp only [List.length_append, List.length_cons, List.length_nil]; omega) (by rw [esc_repl]; simp only [List.length_append, List.length_cons, List.length_nil]; omega) (fun b66 cp66 h166 h266 => ?_)
              refine OD.perm (perm_q11 (S1 := [⟨b66, 5, cp66 * 1, List.flatMap cB ((((encL (l.take i)) ++ [kb l[i]]) ++ (replS 0 [0, 255] l[i].s).data.toList) ++ [(0 : UInt8), 0])⟩]) (A := [_])) ?_
              refine OD.still (wants_plain rfl) rfl (still_as rfl ot) ?_
              refine OD.wk (Wk.as_ (n := 72) (l' := [(4, _), (13, _), (14, _), (15, _)]) (S' := (⟨b6, 30, 3, [_, _, _]⟩ :: [⟨b66, 5, cp66 * 1, List.flatMap cB ((((encL (l.take i)) ++ [kb l[i]]) ++ (replS 0 [0, 255] l[i].s).data.toList) ++ [(0 : UInt8), 0])⟩])) rfl rfl ⟨lk, lk, lk, lk, trivial⟩) ?_
              refine OD.nil ?_
              refine CD.region ?_
              refine OD.still (wants_plain rfl) rfl (still_bin rfl ot opd_const (bin_add (wrap_i64 (by omega) (by omega)))) ?_
              refine OD.still (wants_plain rfl) rfl (still_mv rfl ot) ?_
              refine OD.wk (Wk.as_ (n := 72) (l' := [(4, _), (13, _), (14, _), (15, _)]) (S' := (⟨b6, 30, 3, [_, _, _]⟩ :: [⟨b66, 5, cp66 * 1, List.flatMap cB ((((encL (l.take i)) ++ [kb l[i]]) ++ (replS 0 [0, 255] l[i].s).data.toList) ++ [(0 : UInt8), 0])⟩])) rfl rfl ⟨lk, lk, lk, lk, trivial⟩) ?_
              refine OD.nil ?_
              refine ⟨((i + 1), (some ⟨b66, 0, none⟩), cp66, [⟨b66, 5, cp66 * 1, List.flatMap cB ((((encL (l.take i)) ++ [kb l[i]]) ++ (replS 0 [0, 255] l[i].s).data.toList) ++ [(0 : UInt8), 0])⟩]), ⟨72, [(4, .v (.slice ((some ⟨b66, 0, none⟩)) (encL (l.take ((i + 1)))).length cp66)), (13, .list 3 (l.flatMap cV) l.length), (14, .v (.int .i64 l.length)), (15, .v (.int .i64 (((i + 1)) : Nat)))], (([⟨b66, 5, cp66 * 1, List.flatMap cB ((((encL (l.take i)) ++ [kb l[i]]) ++ (replS 0 [0, 255] l[i].s).data.toList) ++ [(0 : UInt8), 0])⟩]))⟩, ?_, Wk.asS (n := 72) rfl (by repeat (first | exact List.Sublist.refl _ | apply List.Sublist.cons_cons | apply List.Sublist.cons)) ⟨(by (repeat (first | exact look_hit | (apply look_at; focus (first | rfl | (simp; done) | (congr 2; omega) | (apply row_eq; rw [← encL_step hlt]; unfold encV; first | (rw [pay_1 (by assumption)]; simp; done) | (rw [pay_2 (by assumption), List.take_of_length_le (l := be8 (uN l[i])) (by rw [be_len]; omega)]; simp; done) | (rw [pay_3 (by assumption), ← esc_repl]; simp; done) | (rw [pay_0 (by assumption) (by assumption) (by assumption)]; done)) | (apply row_eq; rfl) | (apply row_eq; simp; done))) | (apply look_miss; focus rfl))); done), (by (repeat (first | exact look_hit | (apply look_at; focus (first | rfl | (simp; done) | (congr 2; omega) | (apply row_eq; rw [← encL_step hlt]; unfold encV; first | (rw [pay_1 (by assumption)]; simp; done) | (rw [pay_2 (by assumption), List.take_of_length_le (l := be8 (uN l[i])) (by rw [be_len]; omega)]; simp; done) | (rw [pay_3 (by assumption), ← esc_repl]; simp; done) | (rw [pay_0 (by assumption) (by assumption) (by assumption)]; done)) | (apply row_eq; rfl) | (apply row_eq; simp; done))) | (apply look_miss; focus rfl))); done), (by (repeat (first | exact look_hit | (apply look_at; focus (first | rfl | (simp; done) | (congr 2; omega) | (apply row_eq; rw [← encL_step hlt]; unfold encV; first | (rw [pay_1 (by assumption)]; simp; done) | (rw [pay_2 (by assumption), List.take_of_length_le (l := be8 (uN l[i])) (by rw [be_len]; omega)]; simp; done) | (rw [pay_3 (by assumption), ← esc_repl]; simp; done) | (rw [pay_0 (by assumption) (by assumption) (by assumption)]; done)) | (apply row_eq; rfl) | (apply row_eq; simp; done))) | (apply look_miss; focus rfl))); done), (by (repeat (first | exact look_hit | (apply look_at; focus (first | rfl | (simp; done) | (congr 2; omega) | (apply row_eq; rw [← encL_step hlt]; unfold encV; first | (rw [pay_1 (by assumption)]; simp; done) | (rw [pay_2 (by assumption), List.take_of_length_le (l := be8 (uN l[i])) (by rw [be_len]; omega)]; simp; done) | (rw [pay_3 (by assumption), ← esc_repl]; simp; done) | (rw [pay_0 (by assumption) (by assumption) (by assumption)]; done)) | (apply row_eq; rfl) | (apply row_eq; simp; done))) | (apply look_miss; focus rfl))); done), trivial⟩, (by omega), (all_step hlt h0 hchk), (OwnL.cast (ownL_row h166 h266) (by rw [← encL_step hlt]; unfold encV; first | (rw [pay_1 (by assumption)]; simp; done) | (rw [pay_2 (by assumption), List.take_of_length_le (l := be8 (uN l[i])) (by rw [be_len]; omega)]; simp; done) | (rw [pay_3 (by assumption), ← esc_repl]; simp; done) | (rw [pay_0 (by assumption) (by assumption) (by assumption)]; done))), rfl⟩
              first | omega | (simp only []; omega)
            · have hc6' := hc6
              (try simp only [decide_eq_true_eq, decide_eq_false_iff_not, beq_iff_eq, bne_iff_ne, Bool.not_eq_true', Bool.not_eq_false', Bool.not_eq_true, Bool.not_eq_false, beq_eq_false_iff_ne, ne_eq, bne_eq_false_iff_eq, Bool.and_eq_true, Bool.or_eq_true, Bool.not_not, Bool.and_eq_false_iff, Bool.or_eq_false_iff, Int.not_lt, Int.not_le] at hc6')
              have hk3 : ¬ l[i].k = 3 := by simpa using hc6
              refine CD.skip ?_
              refine CD.region ?_
              refine OD.still (wants_plain rfl) rfl (still_bin rfl ot opd_const (bin_add (wrap_i64 (by omega) (by omega)))) ?_
              refine OD.still (wants_plain rfl) rfl (still_mv rfl ot) ?_
              refine OD.wk (Wk.as_ (n := 72) (l' := [(4, _), (13, _), (14, _), (15, _)]) (S' := (⟨b6, 30, 3, [_, _, _]⟩ :: [⟨b29, 5, cp29 * 1, List.flatMap cB ((encL (l.take i)) ++ [kb l[i]])⟩])) rfl rfl ⟨lk, lk, lk, lk, trivial⟩) ?_
              refine OD.nil ?_
              refine ⟨((i + 1), (some ⟨b29, 0, none⟩), cp29, [⟨b29, 5, cp29 * 1, List.flatMap cB ((encL (l.take i)) ++ [kb l[i]])⟩]), ⟨72, [(4, .v (.slice ((some ⟨b29, 0, none⟩)) (encL (l.take ((i + 1)))).length cp29)), (13, .list 3 (l.flatMap cV) l.length), (14, .v (.int .i64 l.length)), (15, .v (.int .i64 (((i + 1)) : Nat)))], (([⟨b29, 5, cp29 * 1, List.flatMap cB ((encL (l.take i)) ++ [kb l[i]])⟩]))⟩, ?_, Wk.asS (n := 72) rfl (by repeat (first | exact List.Sublist.refl _ | apply List.Sublist.cons_cons | apply List.Sublist.cons)) ⟨(by (repeat (first | exact look_hit | (apply look_at; focus (first | rfl | (simp; done) | (congr 2; omega) | (apply row_eq; rw [← encL_step hlt]; unfold encV; first | (rw [pay_1 (by assumption)]; simp; done) | (rw [pay_2 (by assumption), List.take_of_length_le (l := be8 (uN l[i])) (by rw [be_len]; omega)]; simp; done) | (rw [pay_3 (by assumption), ← esc_repl]; simp; done) | (rw [pay_0 (by assumption) (by assumption) (by assumption)]; done)) | (apply row_eq; rfl) | (apply row_eq; simp; done))) | (apply look_miss; focus rfl))); done), (by (repeat (first | exact look_hit | (apply look_at; focus (first | rfl | (simp; done) | (congr 2; omega) | (apply row_eq; rw [← encL_step hlt]; unfold encV; first | (rw [pay_1 (by assumption)]; simp; done) | (rw [pay_2 (by assumption), List.take_of_length_le (l := be8 (uN l[i])) (by rw [be_len]; omega)]; simp; done) | (rw [pay_3 (by assumption), ← esc_repl]; simp; done) | (rw [pay_0 (by assumption) (by assumption) (by assumption)]; done)) | (apply row_eq; rfl) | (apply row_eq; simp; done))) | (apply look_miss; focus rfl))); done), (by (repeat (first | exact look_hit | (apply look_at; focus (first | rfl | (simp; done) | (congr 2; omega) | (apply row_eq; rw [← encL_step hlt]; unfold encV; first | (rw [pay_1 (by assumption)]; simp; done) | (rw [pay_2 (by assumption), List.take_of_length_le (l := be8 (uN l[i])) (by rw [be_len]; omega)]; simp; done) | (rw [pay_3 (by assumption), ← esc_repl]; simp; done) | (rw [pay_0 (by assumption) (by assumption) (by assumption)]; done)) | (apply row_eq; rfl) | (apply row_eq; simp; done))) | (apply look_miss; focus rfl))); done), (by (repeat (first | exact look_hit | (apply look_at; focus (first | rfl | (simp; done) | (congr 2; omega) | (apply row_eq; rw [← encL_step hlt]; unfold encV; first | (rw [pay_1 (by assumption)]; simp; done) | (rw [pay_2 (by assumption), List.take_of_length_le (l := be8 (uN l[i])) (by rw [be_len]; omega)]; simp; done) | (rw [pay_3 (by assumption), ← esc_repl]; simp; done) | (rw [pay_0 (by assumption) (by assumption) (by assumption)]; done)) | (apply row_eq; rfl) | (apply row_eq; simp; done))) | (apply look_miss; focus rfl))); done), trivial⟩, (by omega), (all_step hlt h0 hchk), (OwnL.cast (ownL_row h129 h229) (by rw [← encL_step hlt]; unfold encV; first | (rw [pay_1 (by assumption)]; simp; done) | (rw [pay_2 (by assumption), List.take_of_length_le (l := be8 (uN l[i])) (by rw [be_len]; omega)]; simp; done) | (rw [pay_3 (by assumption), ← esc_repl]; simp; done) | (rw [pay_0 (by assumption) (by assumption) (by assumption)]; done))), rfl⟩
              first | omega | (simp only []; omega)
    · have hc1' := hc1
      (try simp only [decide_eq_true_eq, decide_eq_false_iff_not, beq_iff_eq, bne_iff_ne, Bool.not_eq_true', Bool.not_eq_false', Bool.not_eq_true, Bool.not_eq_false, beq_eq_false_iff_ne, ne_eq, bne_eq_false_iff_eq, Bool.and_eq_true, Bool.or_eq_true, Bool.not_not, Bool.and_eq_false_iff, Bool.or_eq_false_iff, Int.not_lt, Int.not_le] at hc1')
      have hall : ∀ v ∈ l, checkV v = 0 := by rw [List.take_of_length_le (by omega)] at h0; exact h0
      have hle := encL_len hall
      have htk : encL (l.take i) = encL l := by rw [List.take_of_length_le (by omega)]
      refine CD.exit ?_
      refine CD.seq ?_
      refine CD.seq ?_
      refine CD.region ?_
      refine OD.still (wants_plain rfl) rfl (still_mv rfl ot) ?_
      refine OD.still (wants_plain rfl) rfl (still_r1 (mk := fun y => .call { callee := .builtin .len, args := #[y], argTypes := #[25] }) rfl ot (by first | exact len_list rfl Tryd.runUnderlying25 | exact len_row rfl Tryd.runUnderlying25)) ?_
      refine OD.still (wants_plain rfl) rfl (still_bin rfl ot opd_const bin_gtr) ?_
      refine OD.wk (Wk.as_ (n := 72) (l' := [(4, _), (70, _)]) (S' := (Sb)) rfl rfl ⟨lk, lk, trivial⟩) ?_
      refine OD.nil ?_
      refine CD.cond ot (fun hc7 => ?_) (fun hc7 => ?_)
      · have hc7' := hc7
        (try simp only [decide_eq_true_eq, decide_eq_false_iff_not, beq_iff_eq, bne_iff_ne, Bool.not_eq_true', Bool.not_eq_false', Bool.not_eq_true, Bool.not_eq_false, beq_eq_false_iff_ne, ne_eq, bne_eq_false_iff_eq, Bool.and_eq_true, Bool.or_eq_true, Bool.not_not, Bool.and_eq_false_iff, Bool.or_eq_false_iff, Int.not_lt, Int.not_le] at hc7')
        have hres : encR l = ([], 5) := by unfold encR; rw [if_neg (by omega), errV_ok hall, if_neg (by simp), if_pos (by rw [htk] at hc7; simp at hc7; omega)]
        refine CD.seq ?_
        refine CD.region ?_
        refine OD.still (wants_plain rfl) rfl (still_as rfl opd_const) ?_
        refine OD.still (wants_plain rfl) rfl (still_as rfl opd_const) ?_
        refine OD.wk (Wk.as_ (n := 72) (l' := [(2, _), (3, _)]) (S' := (Sb)) rfl rfl ⟨lk, lk, trivial⟩) ?_
        refine OD.nil ?_
        refine CD.wk (Wk.giveNil (t := 2) (sz := 1) lk) ?_
        refine CD.ret ?_
        refine ⟨.inr rfl, _, [], List.nil_sublist _, ret_two Tryd.results14 (res_tmp (Nat.le_of_ble_eq_true rfl) lk) (res_tmp (Nat.le_of_ble_eq_true rfl) lk), ?_⟩
        first | (rw [hres]; exact ⟨rfl, rfl⟩) | (rw [hres, ← htk]; exact ⟨rfl, rfl⟩)
      · have hc7' := hc7
        (try simp only [decide_eq_true_eq, decide_eq_false_iff_not, beq_iff_eq, bne_iff_ne, Bool.not_eq_true', Bool.not_eq_false', Bool.not_eq_true, Bool.not_eq_false, beq_eq_false_iff_ne, ne_eq, bne_eq_false_iff_eq, Bool.and_eq_true, Bool.or_eq_true, Bool.not_not, Bool.and_eq_false_iff, Bool.or_eq_false_iff, Int.not_lt, Int.not_le] at hc7')
        have hres : encR l = (encL l, 0) := by unfold encR; rw [if_neg (by omega), errV_ok hall, if_neg (by simp), if_neg (by rw [htk] at hc7; simp at hc7; omega)]
        refine CD.skip ?_
        refine CD.seq ?_
        refine CD.region ?_
        refine OD.still (wants_plain rfl) rfl (still_mv rfl ot) ?_
        refine OD.still (wants_plain rfl) rfl (still_as rfl ot) ?_
        refine OD.still (wants_plain rfl) rfl (still_as rfl opd_const) ?_
        refine OD.wk (Wk.as_ (n := 72) (l' := [(2, _), (3, _)]) (S' := (Sb)) rfl rfl ⟨lk, lk, trivial⟩) ?_
        refine OD.nil ?_
        refine CD.giveL (t := 2) (Sq := Sb) lk hob (fm_len cB_len _) (perm_r11 (A := [])) ?_
        refine CD.ret ?_
        refine ⟨.inr rfl, _, [], List.nil_sublist _, ret_two Tryd.results14 (res_tmp (Nat.le_of_ble_eq_true rfl) lk) (res_tmp (Nat.le_of_ble_eq_true rfl) lk), ?_⟩
        first | (rw [hres]; exact ⟨rfl, rfl⟩) | (rw [hres, ← htk]; exact ⟨rfl, rfl⟩)

end Go.Proofs.YtoemmoeedhllfaaDoor.Cd

namespace Go.Proofs.YtoemmoeedhllfaaDoor.Cd
end Go.Proofs.YtoemmoeedhllfaaDoor.Cd


namespace Go.Proofs.YtoemmoeedhllfaaDoor.Cd
open Go.RowKit V Pk Vl
set_option linter.unusedVariables false
set_option linter.unusedSimpArgs false

/-- Values that may stand in a key. -/
def GoodV (l : List Vl) : Prop := ∀ v ∈ l, checkV v = 0 ∧ v.Ok
theorem encL_cons (v : Vl) (l : List Vl) : encL (v :: l) = encV v ++ encL l := by unfold encL; rw [List.flatMap_cons]
theorem encL_app (a b : List Vl) : encL (a ++ b) = encL a ++ encL b := by unfold encL; rw [List.flatMap_append]
theorem enc_good {l : List Vl} (g : GoodV l) (h6 : l.length ≤ 6) (h100 : (encL l).length ≤ 100) : encR l = (encL l, 0) := by
  unfold encR
  rw [if_neg (by omega), errV_ok fun v hv => (g v hv).1, if_neg (by simp), if_neg (by omega)]
/-! ### The values that the statements make -/
theorem esc_len5 {v : Vl} (hs : v.s.size ≤ 5) (h : checkV v = 0) : (encV v).length ≤ 13 := by
  unfold encV payV
  rw [List.length_cons]
  split
  · simp
  · split
    · rw [be_len]; omega
    · split
      · have h2 := esc_len v.s.data.toList
        rw [str_len] at h2
        rw [List.length_append]; simp; omega
      · simp
theorem valC_good {r : Vl} (h : r.Ok) : checkV (valC r) = 0 ∧ (valC r).Ok ∧ (valC r).s.size ≤ 5 := by
  have hmx : 100 ≤ maxLen := by decide
  have h5 : (cutF (valueF r).s 5).size ≤ 5 := by rw [cutF_size]; omega
  have he : cutF (⟨#[]⟩ : ByteArray) 5 = ⟨#[]⟩ := str_ext (by rw [cutF_list]; rfl)
  have h2 := pickedF_bd r.n (by decide : (1 : Int) ≤ 2)
  have h1 := h.n1
  have h3 := h.n2
  have hb : ((⟨#[]⟩ : ByteArray).size) = 0 := rfl
  have hb : (ByteArray.empty.size) = 0 := rfl
  have hee : (ByteArray.empty) = (⟨#[]⟩ : ByteArray) := rfl
  refine ⟨?_, ?_, h5⟩
  · unfold valC valueF
    split
    · simp only [checkV, he]; simp [hee]; omega
    · split
      · simp only [checkV, he]; simp [hee]
      · split
        · have : (cutF (cutF r.s 10) 5).size ≤ 5 := by rw [cutF_size]; omega
          simp only [checkV]; simp; omega
        · unfold noVl; simp only [checkV, he]; simp [hee]
  · have hk : 0 ≤ (valueF r).k ∧ (valueF r).k ≤ 3 := by unfold valueF noVl; split <;> (try split) <;> (try split) <;> (constructor <;> (simp only [] <;> decide))
    have hn : -9223372036854775808 ≤ (valueF r).n ∧ (valueF r).n ≤ 9223372036854775807 := by unfold valueF noVl; split <;> (try split) <;> (try split) <;> (constructor <;> (simp only [] <;> omega))
    have a1 : -9223372036854775808 ≤ (valueF r).k := by omega
    have a2 : (valueF r).k ≤ 9223372036854775807 := by omega
    have ek : (valC r).k = (valueF r).k := rfl
    have en : (valC r).n = (valueF r).n := rfl
    have es : (valC r).s = cutF (valueF r).s 5 := rfl
    exact ⟨by rw [ek]; exact a1, by rw [ek]; exact a2, by rw [en]; exact hn.1, by rw [en]; exact hn.2, by rw [es]; omega⟩
theorem vals_mem {l : List Vl} (hl : ∀ v ∈ l, v.Ok) : ∀ v ∈ valsF l, checkV v = 0 ∧ v.Ok ∧ v.s.size ≤ 5 := by
  intro v hv
  unfold valsF at hv
  obtain ⟨r, hr, rfl⟩ := List.mem_map.1 hv
  exact valC_good (hl r (List.mem_of_mem_take hr))
theorem encL_13 : ∀ {l : List Vl}, (∀ v ∈ l, checkV v = 0 ∧ v.Ok ∧ v.s.size ≤ 5) → (encL l).length ≤ 13 * l.length
  | [], _ => Nat.le_refl _
  | v :: r, h => by
    obtain ⟨h1, h2, h3⟩ := h v List.mem_cons_self
    have h4 := esc_len5 h3 h1
    have h5 := encL_13 (l := r) fun x hx => h x (List.mem_cons_of_mem _ hx)
    rw [encL_cons, List.length_append, List.length_cons]; omega
/-- Six such values have a key. -/
theorem small_enc {l : List Vl} (h : ∀ v ∈ l, checkV v = 0 ∧ v.Ok ∧ v.s.size ≤ 5) (h6 : l.length ≤ 6) : encR l = (encL l, 0) ∧ GoodV l ∧ (encL l).length ≤ 100 := by
  have h1 := encL_13 h
  have g : GoodV l := fun v hv => ⟨(h v hv).1, (h v hv).2.1⟩
  exact ⟨enc_good g h6 (by omega), g, by omega⟩

end Go.Proofs.YtoemmoeedhllfaaDoor.Cd

namespace Go.Proofs.YtoemmoeedhllfaaDoor.V
open Go.RowKit
set_option linter.unusedVariables false

variable {H : Type} {enc : TypeId × Value → H} {P : Program} {w : World} {base : Nat} {sp : Nat → Bool} {held : Bool}

/-- The same as Rds, read no deeper than so. -/
def RdsF (fuel : Nat) (enc : TypeId × Value → H) (P : Program) (w : World) (base : Nat) (sp : Nat → Bool) (held : Bool) (t : TypeId) {α : Type} (g : α → List D) (ok : α → Prop) : Prop :=
  ∀ cs x, DataW.trod enc P w base sp held fuel t cs = some x → ∃ a, RepL w (fun _ => False) (g a) cs ∧ ok a

theorem Rds.at {t : TypeId} {α : Type} {g : α → List D} {ok : α → Prop} (h : Rds enc P w base sp held t g ok) (n : Nat) : RdsF n enc P w base sp held t g ok := h n

theorem RepL.one {w : World} {L : Nat → Prop} {d : D} {v : Value} (h : Rep w L d v) : RepL w L [d] [v] := ⟨rfl, fun i h1 h2 => by
  have : i = 0 := by simpa using h1
  subst this
  exact h⟩

end Go.Proofs.YtoemmoeedhllfaaDoor.V

namespace Go.Proofs.YtoemmoeedhllfaaDoor.Cd
open Go.RowKit V Pk Vl
set_option linter.unusedVariables false
set_option linter.unusedSimpArgs false

variable {G : List (Nat × List Value)} {m : Int}
theorem str_beq {a b : ByteArray} (h : a = b) : (a.toList == b.toList) = true := by rw [h]; simp

set_option maxRecDepth 100000
theorem rd_raw {H : Type} {enc : TypeId × Value → H} {w : World} {base : Nat} {sp : Nat → Bool} {held : Bool} : Rds enc Tryd.prog w base sp held 65 cV Vl.Ok :=
  (rd_struct3 Tryd.underlying65 (n0 := 1) (n1 := 1) (n2 := 1) (by kernel_rfl) rfl rfl rfl (by kernel_rfl) (by kernel_rfl) (by kernel_rfl) (rd_int Tryd.underlying3) (rd_int Tryd.underlying3) (rd_string Tryd.underlying9)).map (fun a => ⟨a.1, a.2.1, a.2.2⟩) (fun a => rfl) (fun a h => ⟨h.1.1, h.1.2, h.2.1.1, h.2.1.2, h.2.2⟩)
theorem rd_raws {H : Type} {enc : TypeId × Value → H} {w : World} {base b' : Nat} {sp : Nat → Bool} {held : Bool} {v : Value} {d : DataW H} {p : List MemPlace} (hval : Value.okWide Tryd.prog w .any b' 22 v) (h : DataW.Trod enc Tryd.prog w base sp held 22 v d p) :
    ∃ l : List Vl, Rep w (fun _ => False) (.list 3 (l.flatMap cV) l.length) v ∧ (l.length ≤ maxLen ∧ ∀ x ∈ l, x.Ok) ∧ True := by
  obtain ⟨l, h1, h2, h3⟩ := rd_slice Tryd.underlying22 (by kernel_rfl) (by decide) rd_raw cV_len hval h
  exact ⟨l, h1, ⟨h3, h2⟩, trivial⟩
theorem len_var {W : World} (hS : W.ShapedOpen Tryd.prog) : ∃ m, Tab.TabAt W 3 [Value.int .i64 m] := by
  obtain ⟨m, hm⟩ := Tryd.laysM155.s1_3 W hS
  exact ⟨m, fun k v hk => by
    match k, hk with
    | 0, hk => cases hk; exact hm⟩
end Go.Proofs.YtoemmoeedhllfaaDoor.Cd

namespace Go.Proofs.YtoemmoeedhllfaaDoor.Cd
open Go.RowKit V Pk Vl
set_option linter.unusedVariables false
set_option linter.unusedSimpArgs false

variable {G : List (Nat × List Value)} {m : Int}
theorem maxlen_le : 100 ≤ maxLen := by decide
theorem good_ok {l : List Vl} (g : GoodV l) : ∀ v ∈ l, v.Ok := fun v hv => (g v hv).2
theorem one_one : encR [⟨1, 1, ⟨#[]⟩⟩] = ([1, 1], 0) := by decide
theorem one_ok : ∀ v ∈ [(⟨1, 1, ⟨#[]⟩⟩ : Vl)], v.Ok := fun v hv => by
  simp only [List.mem_singleton] at hv; subst hv
  exact ⟨by decide, by decide, by decide, by decide, Nat.zero_le _⟩
theorem bytes_add {a b : List UInt8} : ((⟨(a ++ b).toArray⟩ : ByteArray).toList == ((⟨a.toArray⟩ : ByteArray) ++ ⟨b.toArray⟩).toList) = true := by
  rw [beq_iff_eq, str_list, str_list]; simp

theorem info30_Cd5 : (Tryd.prog.info? 30).map (fun i => (i.zero, i.size, i.bytes)) = some (some (.agg #[.int .i64 0, .int .i64 0, .string ⟨#[]⟩]), 3, 32) := by kernel_rfl

theorem places30_Cd5 : ∀ w, ((#[{ name := "Kind", type := 3, offset := 0, embedded := false, tag := "", pkgPath := "", byteOffset := 0 }, { name := "Int", type := 3, offset := 1, embedded := false, tag := "", pkgPath := "", byteOffset := 8 }, { name := "Text", type := 9, offset := 2, embedded := false, tag := "", pkgPath := "", byteOffset := 16 }] : Array Field).mapM fun f => do pure (f.offset, ← sizeOf f.type) : Sem (Array (Nat × Nat))).run Tryd.prog w = .ok #[(0, 1), (1, 1), (2, 1)] w := fun w => by simp [Tryd.sizeOf3, Tryd.sizeOf9]

set_option maxHeartbeats 4000000 in
set_option maxRecDepth 100000 in
theorem parts_vp (hG : (3, [Value.int .i64 m]) ∈ G) (a : List Vl) (ha : a.length ≤ maxLen) (oka : ∀ v ∈ a, v.Ok) (b : List Vl) (hb : b.length ≤ maxLen) (okb : ∀ v ∈ b, v.Ok) : VP Tryd.prog G 3 [.list 3 (a.flatMap cV) a.length, .list 3 (b.flatMap cV) b.length] (.v (.bool true)) := by
  refine VC.body Tryd.func3 rfl Tryd.ntmps3 (Nat.le_of_ble_eq_true rfl) fun X0 w0 S00 => ?_
  have hmx : maxLen = 9223372036854775807 := rfl
  have hva := valuesOf_vp (G := G) a ha oka
  have hvb := valuesOf_vp (G := G) b hb okb
  have ma := vals_mem oka
  have mb := vals_mem okb
  generalize valsF a = va at *
  generalize valsF b = xb at *
  obtain ⟨e1, g1, b1⟩ := small_enc (l := (va.take (min va.length 3))) (fun v hv => ma v (List.mem_of_mem_take hv)) (by simp; omega)
  have hev1 := enc_vp (G := G) hG ((va.take (min va.length 3))) (by have := maxlen_le; have h6 : ((va.take (min va.length 3))).length ≤ 6 := (by simp; omega); omega) (good_ok g1)
  rw [e1] at hev1
  unfold encD bytesL at hev1
  dsimp only at hev1
  have sz1 : (⟨(encL ((va.take (min va.length 3)))).toArray⟩ : ByteArray).size = (encL ((va.take (min va.length 3)))).length := by rw [← str_len]
  obtain ⟨e2, g2, b2⟩ := small_enc (l := (xb.take (min xb.length 3))) (fun v hv => mb v (List.mem_of_mem_take hv)) (by simp; omega)
  have hev2 := enc_vp (G := G) hG ((xb.take (min xb.length 3))) (by have := maxlen_le; have h6 : ((xb.take (min xb.length 3))).length ≤ 6 := (by simp; omega); omega) (good_ok g2)
  rw [e2] at hev2
  unfold encD bytesL at hev2
  dsimp only at hev2
  have sz2 : (⟨(encL ((xb.take (min xb.length 3)))).toArray⟩ : ByteArray).size = (encL ((xb.take (min xb.length 3)))).length := by rw [← str_len]
  obtain ⟨e3, g3, b3⟩ := small_enc (l := ([] ++ (va.take (min va.length 3))) ++ (xb.take (min xb.length 3))) (fun v hv => by rw [List.nil_append] at hv; exact (List.mem_append.1 hv).elim (fun h => ma v (List.mem_of_mem_take h)) (fun h => mb v (List.mem_of_mem_take h))) (by simp; omega)
  have hev3 := enc_vp (G := G) hG (([] ++ (va.take (min va.length 3))) ++ (xb.take (min xb.length 3))) (by have := maxlen_le; have h6 : (([] ++ (va.take (min va.length 3))) ++ (xb.take (min xb.length 3))).length ≤ 6 := (by simp; omega); omega) (good_ok g3)
  rw [e3] at hev3
  unfold encD bytesL at hev3
  dsimp only at hev3
  have sz3 : (⟨(encL (([] ++ (va.take (min va.length 3))) ++ (xb.take (min xb.length 3)))).toArray⟩ : ByteArray).size = (encL (([] ++ (va.take (min va.length 3))) ++ (xb.take (min xb.length 3)))).length := by rw [← str_len]
  rw [show encL (([] ++ (va.take (min va.length 3))) ++ (xb.take (min xb.length 3))) = encL (va.take (min va.length 3)) ++ encL (xb.take (min xb.length 3)) from by rw [List.nil_append, encL_app]] at hev3
  have hev4 := enc_vp (G := G) hG [⟨1, 1, ⟨#[]⟩⟩] (by simp; omega) one_ok
  rw [one_one] at hev4
  unfold encD bytesL at hev4
  refine CD.seq ?_
  refine CD.region ?_
  refine OD.still (wants_plain rfl) rfl (still_as rfl opd_const) ?_
  refine OD.wk (Wk.as_ (n := 82) (l' := [(0, _), (1, _)]) (S' := []) rfl rfl ⟨lk, lk, trivial⟩) ?_
  refine OD.nil ?_
  refine CD.seq ?_
  refine CD.region ?_
  refine OD.still (wants_plain rfl) rfl (still_mv rfl ot) ?_
  refine OD.callP (wants_plain rfl) rfl rfl rfl Tryd.call13 (hva) ⟨ot, trivial⟩ ?_
  refine OD.still (wants_plain rfl) rfl (still_as rfl ot) ?_
  refine OD.wk (Wk.as_ (n := 82) (l' := [(1, _), (5, _)]) (S' := []) rfl rfl ⟨lk, lk, trivial⟩) ?_
  refine OD.nil ?_
  refine CD.seq ?_
  refine CD.region ?_
  refine OD.still (wants_plain rfl) rfl (still_mv rfl ot) ?_
  refine OD.callP (wants_plain rfl) rfl rfl rfl Tryd.call13 (hvb) ⟨ot, trivial⟩ ?_
  refine OD.still (wants_plain rfl) rfl (still_as rfl ot) ?_
  refine OD.wk (Wk.as_ (n := 82) (l' := [(5, _), (6, _)]) (S' := []) rfl rfl ⟨lk, lk, trivial⟩) ?_
  refine OD.nil ?_
  refine CD.seq ?_
  refine CD.region ?_
  refine OD.still (wants_plain rfl) rfl (still_mv rfl ot) ?_
  refine OD.still (wants_plain rfl) rfl (still_mv rfl ot) ?_
  refine OD.still (wants_plain rfl) rfl (still_r1 (mk := fun y => .call { callee := .builtin .len, args := #[y], argTypes := #[23] }) rfl ot (by first | exact len_list rfl Tryd.runUnderlying23 | exact len_row rfl Tryd.runUnderlying23)) ?_
  refine OD.still (wants_plain rfl) rfl (still_minmax (r := .int .i64 ((min va.length 3 : Nat) : Int)) rfl ot opd_const (fun cs w => (mm_min cs w).trans (by split <;> (congr 3; omega)))) ?_
  refine OD.still (wants_plain rfl) rfl (still_rs (l := 0) rfl ot trivial ⟨_, ot⟩ (by first | exact sl_head cV_len (fun h => by cases h) Tryd.runUnderlying23 Tryd.sizeOf30 (by omega) | exact sl_head cB_len (fun h => by cases h) Tryd.runUnderlying23 Tryd.sizeOf30 (by omega) | exact sl_row (fun h => by cases h) Tryd.runUnderlying23 Tryd.sizeOf30 (by omega) | exact sl_list (fun _ => rfl) (fun h => by cases h) Tryd.runUnderlying23 Tryd.sizeOf30 (by omega) (by omega))) ?_
  refine OD.still (wants_plain rfl) rfl (still_as rfl ot) ?_
  refine OD.wk (Wk.as_ (n := 82) (l' := [(5, _), (6, _)]) (S' := []) rfl rfl ⟨lk, lk, trivial⟩) ?_
  refine OD.nil ?_
  refine CD.seq ?_
  refine CD.region ?_
  refine OD.still (wants_plain rfl) rfl (still_mv rfl ot) ?_
  refine OD.still (wants_plain rfl) rfl (still_mv rfl ot) ?_
  refine OD.still (wants_plain rfl) rfl (still_r1 (mk := fun y => .call { callee := .builtin .len, args := #[y], argTypes := #[23] }) rfl ot (by first | exact len_list rfl Tryd.runUnderlying23 | exact len_row rfl Tryd.runUnderlying23)) ?_
  refine OD.still (wants_plain rfl) rfl (still_minmax (r := .int .i64 ((min xb.length 3 : Nat) : Int)) rfl ot opd_const (fun cs w => (mm_min cs w).trans (by split <;> (congr 3; omega)))) ?_
  refine OD.still (wants_plain rfl) rfl (still_rs (l := 0) rfl ot trivial ⟨_, ot⟩ (by first | exact sl_head cV_len (fun h => by cases h) Tryd.runUnderlying23 Tryd.sizeOf30 (by omega) | exact sl_head cB_len (fun h => by cases h) Tryd.runUnderlying23 Tryd.sizeOf30 (by omega) | exact sl_row (fun h => by cases h) Tryd.runUnderlying23 Tryd.sizeOf30 (by omega) | exact sl_list (fun _ => rfl) (fun h => by cases h) Tryd.runUnderlying23 Tryd.sizeOf30 (by omega) (by omega))) ?_
  refine OD.still (wants_plain rfl) rfl (still_as rfl ot) ?_
  refine OD.wk (Wk.as_ (n := 82) (l' := [(5, _), (6, _)]) (S' := []) rfl rfl ⟨lk, lk, trivial⟩) ?_
  refine OD.nil ?_
  refine CD.seq ?_
  refine CD.region ?_
  refine OD.still (wants_plain rfl) rfl (still_mv rfl ot) ?_
  refine OD.callP (wants_plain rfl) rfl rfl rfl Tryd.call14 (hev1) ⟨ot, trivial⟩ ?_
  refine OD.still (wants_plain rfl) rfl (still_mv rfl ot) ?_
  refine OD.still (wants_plain rfl) rfl (still_extract rfl ot rfl) ?_
  refine OD.still (wants_plain rfl) rfl (still_extract rfl ot rfl) ?_
  refine OD.still (wants_plain rfl) rfl (still_as rfl ot) ?_
  refine OD.still (wants_plain rfl) rfl (still_as rfl ot) ?_
  refine OD.wk (Wk.as_ (n := 82) (l' := [(5, _), (6, _), (7, _), (8, _)]) (S' := []) rfl rfl ⟨lk, lk, lk, lk, trivial⟩) ?_
  refine OD.nil ?_
  refine CD.seq ?_
  refine CD.region ?_
  refine OD.still (wants_plain rfl) rfl (still_mv rfl ot) ?_
  refine OD.callP (wants_plain rfl) rfl rfl rfl Tryd.call14 (hev2) ⟨ot, trivial⟩ ?_
  refine OD.still (wants_plain rfl) rfl (still_mv rfl ot) ?_
  refine OD.still (wants_plain rfl) rfl (still_extract rfl ot rfl) ?_
  refine OD.still (wants_plain rfl) rfl (still_extract rfl ot rfl) ?_
  refine OD.still (wants_plain rfl) rfl (still_as rfl ot) ?_
  refine OD.still (wants_plain rfl) rfl (still_as rfl ot) ?_
  refine OD.wk (Wk.as_ (n := 82) (l' := [(5, _), (6, _), (7, _), (8, _), (9, _), (10, _)]) (S' := []) rfl rfl ⟨lk, lk, lk, lk, lk, lk, trivial⟩) ?_
  refine OD.nil ?_
  refine CD.seq ?_
  refine CD.region ?_
  refine OD.still (wants_plain rfl) rfl (still_mv rfl ot) ?_
  refine OD.appendAny (ls := []) (new := (va.take (min va.length 3))) (Sq := []) cV_len cV_one (wants_plain rfl) rfl rfl Tryd.underlying23 info30_Cd5 rfl (by decide) Tryd.runUnderlying23 Tryd.sizeOf30 opd_const ownL_nil (perm_r11 (A := [])) ot (by have hmx : maxLen = 9223372036854775807 := rfl; (try simp only [List.length_append, List.length_cons, List.length_nil, List.length_take]); omega) (by have hmx : maxLen = 9223372036854775807 := rfl; (try simp only [List.length_append, List.length_cons, List.length_nil, List.length_take]); omega) (fun ad41 cp41 S41 ho41 => ?_)
  refine OD.perm (perm_q11 (A := [])) ?_
  refine OD.still (wants_plain rfl) rfl (still_mv rfl ot) ?_
  refine OD.appendAny (ls := ([] ++ (va.take (min va.length 3)))) (new := (xb.take (min xb.length 3))) (Sq := S41) cV_len cV_one (wants_plain rfl) rfl rfl Tryd.underlying23 info30_Cd5 rfl (by decide) Tryd.runUnderlying23 Tryd.sizeOf30 ot ho41 (perm_r11 (A := [])) ot (by have hmx : maxLen = 9223372036854775807 := rfl; (try simp only [List.length_append, List.length_cons, List.length_nil, List.length_take]); omega) (by have hmx : maxLen = 9223372036854775807 := rfl; (try simp only [List.length_append, List.length_cons, List.length_nil, List.length_take]); omega) (fun ad43 cp43 S43 ho43 => ?_)
  refine OD.perm (perm_q11 (A := [])) ?_
  refine OD.giveL (t := 43) (Sq := S43) lk ho43 (fm_len cV_len _) (perm_r11 (A := [])) ?_
  refine OD.callP (wants_plain rfl) rfl rfl rfl Tryd.call14 (hev3) ⟨ot, trivial⟩ ?_
  refine OD.still (wants_plain rfl) rfl (still_mv rfl ot) ?_
  refine OD.still (wants_plain rfl) rfl (still_extract rfl ot rfl) ?_
  refine OD.still (wants_plain rfl) rfl (still_extract rfl ot rfl) ?_
  refine OD.still (wants_plain rfl) rfl (still_as rfl ot) ?_
  refine OD.still (wants_plain rfl) rfl (still_as rfl ot) ?_
  refine OD.wk (Wk.as_ (n := 82) (l' := [(7, _), (8, _), (9, _), (10, _), (11, _), (12, _)]) (S' := []) rfl rfl ⟨lk, lk, lk, lk, lk, lk, trivial⟩) ?_
  refine OD.nil ?_
  refine CD.seq ?_
  refine CD.region ?_
  refine OD.still (wants_plain rfl) rfl (still_bld (pl := [(0, _), (1, _)]) (ds := [_, _, _]) rfl Tryd.zeroValue30 Tryd.runUnderlying30 places30_Cd5 ⟨rfl, opd_const, rfl, opd_const, trivial⟩ rfl rfl) ?_
  refine OD.bldS (pl := [(0, _)]) (zvs := [.int .i64 0, .int .i64 0, .string ⟨#[]⟩]) (ds := [_, _, _]) (wants_plain rfl) rfl rfl Tryd.zeroValue30 Tryd.runUnderlying23 Tryd.sizeOf30 rfl rfl (by kernel_rfl) ⟨rfl, ot, trivial⟩ rfl rfl (fun b49 => ?_)
  refine OD.perm (perm_q11 (S1 := [⟨b49, 30, 1 * 3, List.flatMap cV ([⟨1, 1, ⟨#[]⟩⟩])⟩]) (A := [])) ?_
  refine OD.giveL (t := 49) (Sq := [⟨b49, 30, 1 * 3, List.flatMap cV ([⟨1, 1, ⟨#[]⟩⟩])⟩]) lk (ownL_row (g := cV) (sz := 3) (e := 30) (ls := [⟨1, 1, ⟨#[]⟩⟩]) (Nat.le_refl _) (show 1 ≤ maxLen by decide)) (fm_len cV_len _) (perm_r11 (A := [])) ?_
  refine OD.callP (wants_plain rfl) rfl rfl rfl Tryd.call14 (hev4) ⟨ot, trivial⟩ ?_
  refine OD.still (wants_plain rfl) rfl (still_mv rfl ot) ?_
  refine OD.still (wants_plain rfl) rfl (still_extract rfl ot rfl) ?_
  refine OD.still (wants_plain rfl) rfl (still_extract rfl ot rfl) ?_
  refine OD.still (wants_plain rfl) rfl (still_as rfl ot) ?_
  refine OD.still (wants_plain rfl) rfl (still_as rfl ot) ?_
  refine OD.wk (Wk.as_ (n := 82) (l' := [(7, _), (8, _), (9, _), (10, _), (11, _), (12, _), (13, _), (14, _)]) (S' := []) rfl rfl ⟨lk, lk, lk, lk, lk, lk, lk, lk, trivial⟩) ?_
  refine OD.nil ?_
  refine CD.seq ?_
  refine CD.region ?_
  refine OD.still (wants_plain rfl) rfl (still_mv rfl ot) ?_
  refine OD.still (wants_plain rfl) rfl (still_bin rfl ot opd_const bin_eql) ?_
  refine OD.still (wants_plain rfl) rfl (still_mv rfl ot) ?_
  refine OD.split (t := 55) lk (fun hg55 => ?_) (fun hg55 => ?_)
  · have hg55' := hg55; (try simp only [decide_eq_true_eq, decide_eq_false_iff_not, beq_iff_eq, bne_iff_ne, Bool.not_eq_true', Bool.not_eq_false', Bool.not_eq_true, Bool.not_eq_false, beq_eq_false_iff_ne, ne_eq, bne_eq_false_iff_eq, Bool.and_eq_true, Bool.or_eq_true, Bool.not_not] at hg55')
    refine OD.still (wants_T rfl rfl rfl lk (by first | rfl | assumption)) rfl (still_mv rfl ot) ?_
    refine OD.still (wants_T rfl rfl rfl lk (by first | rfl | assumption)) rfl (still_bin rfl ot opd_const bin_eql) ?_
    refine OD.still (wants_plain rfl) rfl (still_pickT rfl ot (by first | rfl | assumption) ot) ?_
    refine OD.still (wants_plain rfl) rfl (still_mv rfl ot) ?_
    refine OD.split (t := 59) lk (fun hg59 => ?_) (fun hg59 => ?_)
    · have hg59' := hg59; (try simp only [decide_eq_true_eq, decide_eq_false_iff_not, beq_iff_eq, bne_iff_ne, Bool.not_eq_true', Bool.not_eq_false', Bool.not_eq_true, Bool.not_eq_false, beq_eq_false_iff_ne, ne_eq, bne_eq_false_iff_eq, Bool.and_eq_true, Bool.or_eq_true, Bool.not_not] at hg59')
      refine OD.still (wants_T rfl rfl rfl lk (by first | rfl | assumption)) rfl (still_mv rfl ot) ?_
      refine OD.still (wants_T rfl rfl rfl lk (by first | rfl | assumption)) rfl (still_bin rfl ot opd_const bin_eql) ?_
      refine OD.still (wants_plain rfl) rfl (still_pickT rfl ot (by first | rfl | assumption) ot) ?_
      refine OD.still (wants_plain rfl) rfl (still_mv rfl ot) ?_
      refine OD.split (t := 63) lk (fun hg63 => ?_) (fun hg63 => ?_)
      · have hg63' := hg63; (try simp only [decide_eq_true_eq, decide_eq_false_iff_not, beq_iff_eq, bne_iff_ne, Bool.not_eq_true', Bool.not_eq_false', Bool.not_eq_true, Bool.not_eq_false, beq_eq_false_iff_ne, ne_eq, bne_eq_false_iff_eq, Bool.and_eq_true, Bool.or_eq_true, Bool.not_not] at hg63')
        refine OD.still (wants_T rfl rfl rfl lk (by first | rfl | assumption)) rfl (still_mv rfl ot) ?_
        refine OD.still (wants_T rfl rfl rfl lk (by first | rfl | assumption)) rfl (still_bin rfl ot opd_const bin_eql) ?_
        refine OD.still (wants_plain rfl) rfl (still_pickT rfl ot (by first | rfl | assumption) ot) ?_
        refine OD.still (wants_plain rfl) rfl (still_mv rfl ot) ?_
        refine OD.split (t := 67) lk (fun hg67 => ?_) (fun hg67 => ?_)
        · have hg67' := hg67; (try simp only [decide_eq_true_eq, decide_eq_false_iff_not, beq_iff_eq, bne_iff_ne, Bool.not_eq_true', Bool.not_eq_false', Bool.not_eq_true, Bool.not_eq_false, beq_eq_false_iff_ne, ne_eq, bne_eq_false_iff_eq, Bool.and_eq_true, Bool.or_eq_true, Bool.not_not] at hg67')
          refine OD.still (wants_T rfl rfl rfl lk (by first | rfl | assumption)) rfl (still_mv rfl ot) ?_
          first | refine OD.still (wants_T rfl rfl rfl lk (by first | rfl | assumption)) rfl (still_ofBytes rfl ot Tryd.underlying25 Tryd.underlying5 Tryd.underlying9) ?_ | refine OD.still (wants_T rfl rfl rfl lk (by first | rfl | assumption)) rfl (still_ofBytesF rfl ot Tryd.underlying25 Tryd.underlying5 Tryd.underlying9) ?_
          refine OD.still (wants_T rfl rfl rfl lk (by first | rfl | assumption)) rfl (still_mv rfl ot) ?_
          first | refine OD.still (wants_T rfl rfl rfl lk (by first | rfl | assumption)) rfl (still_ofBytes rfl ot Tryd.underlying25 Tryd.underlying5 Tryd.underlying9) ?_ | refine OD.still (wants_T rfl rfl rfl lk (by first | rfl | assumption)) rfl (still_ofBytesF rfl ot Tryd.underlying25 Tryd.underlying5 Tryd.underlying9) ?_
          refine OD.still (wants_T rfl rfl rfl lk (by first | rfl | assumption)) rfl (still_mv rfl ot) ?_
          first | refine OD.still (wants_T rfl rfl rfl lk (by first | rfl | assumption)) rfl (still_ofBytes rfl ot Tryd.underlying25 Tryd.underlying5 Tryd.underlying9) ?_ | refine OD.still (wants_T rfl rfl rfl lk (by first | rfl | assumption)) rfl (still_ofBytesF rfl ot Tryd.underlying25 Tryd.underlying5 Tryd.underlying9) ?_
          refine OD.still (wants_T rfl rfl rfl lk (by first | rfl | assumption)) rfl (still_bin rfl ot ot (bin_cat (by omega))) ?_
          refine OD.still (wants_T rfl rfl rfl lk (by first | rfl | assumption)) rfl (still_bin rfl ot ot bin_seql) ?_
          refine OD.still (wants_plain rfl) rfl (still_pickT rfl ot (by first | rfl | assumption) ot) ?_
          refine OD.still (wants_plain rfl) rfl (still_mv rfl ot) ?_
          refine OD.split (t := 77) lk (fun hg77 => ?_) (fun hg77 => ?_)
          · have hg77' := hg77; (try simp only [decide_eq_true_eq, decide_eq_false_iff_not, beq_iff_eq, bne_iff_ne, Bool.not_eq_true', Bool.not_eq_false', Bool.not_eq_true, Bool.not_eq_false, beq_eq_false_iff_ne, ne_eq, bne_eq_false_iff_eq, Bool.and_eq_true, Bool.or_eq_true, Bool.not_not] at hg77')
            refine OD.still (wants_T rfl rfl rfl lk (by first | rfl | assumption)) rfl (still_mv rfl ot) ?_
            first | refine OD.still (wants_T rfl rfl rfl lk (by first | rfl | assumption)) rfl (still_ofBytes rfl ot Tryd.underlying25 Tryd.underlying5 Tryd.underlying9) ?_ | refine OD.still (wants_T rfl rfl rfl lk (by first | rfl | assumption)) rfl (still_ofBytesF rfl ot Tryd.underlying25 Tryd.underlying5 Tryd.underlying9) ?_
            refine OD.still (wants_T rfl rfl rfl lk (by first | rfl | assumption)) rfl (still_bin rfl ot opd_const bin_seql) ?_
            refine OD.still (wants_plain rfl) rfl (still_pickT rfl ot (by first | rfl | assumption) ot) ?_
            refine OD.still (wants_plain rfl) rfl (still_as rfl ot) ?_
            refine OD.wk (Wk.as_ (n := 82) (l' := [(4, _)]) (S' := []) rfl rfl ⟨lk, trivial⟩) ?_
            refine OD.nil ?_
            refine CD.ret ?_
            refine ⟨.inr rfl, _, [], List.nil_sublist _, ret_one Tryd.results3 (res_tmp (Nat.le_of_ble_eq_true rfl) lk), ?_⟩
            exact ⟨vb (str_beq rfl), rfl⟩
          · exact absurd hg77 (by rw [bytes_add] at hg77; cases hg77)
        · exact absurd hg67 (by simp at hg67)
      · exact absurd hg63 (by simp at hg63)
    · exact absurd hg59 (by simp at hg59)
  · exact absurd hg55 (by simp at hg55)

theorem walkKeyParts (l : List Vl) (v : Value) (ok : (l.length ≤ maxLen ∧ ∀ x ∈ l, x.Ok)) (k : List Vl) (u : Value) (ok' : (k.length ≤ maxLen ∧ ∀ x ∈ k, x.Ok)) (w : World) {m : Int} (hm : Tab.TabAt w 3 [Value.int .i64 m]) (hv : Rep w (fun _ => False) (.list 3 (l.flatMap cV) l.length) v) (hu : Rep w (fun _ => False) (.list 3 (k.flatMap cV) k.length) u) : Calls Tryd.prog 3 #[v, u] w fun e w' => e = .returned (.bool true) ∧ Below w.heap.size w w' :=
  (parts_vp (G := [(3, [Value.int .i64 m])]) List.mem_cons_self l ok.1 ok.2 k ok'.1 ok'.2).runL (fun g hg => by simp only [List.mem_cons, List.not_mem_nil, or_false] at hg; subst hg; exact ⟨by simp, hm⟩) (vs := [v, u]) (RepL.cons hv (RepL.one hu))
end Go.Proofs.YtoemmoeedhllfaaDoor.Cd
