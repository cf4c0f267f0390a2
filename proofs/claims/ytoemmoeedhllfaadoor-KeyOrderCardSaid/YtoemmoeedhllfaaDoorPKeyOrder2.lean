/-
  What the proof of KeyOrder leans on, part 2 of 3: walks of the program's functions at the level of values, and plain facts of what they compute.
-/
import Derived.Test.YtoemmoeedhllfaaDoorPKeyOrder1
namespace Go.Proofs
open Go.Shelf
def Tryd.lays106_ren : Go.Shelf.Ren := ⟨fun | 106 => 47 | 213 => 66 | 265 => 89 | n => n, fun | 9 => 9 | 3 => 3 | n => n, fun | n => n⟩
theorem Tryd.lays106 : Go.Proofs.Lays.n106 Tryd.prog Tryd.lays106_ren := {
  mixed := by kernel_rfl
  f106 := Tryd.func47.trans (congrArg some (by kernel_rfl))
  f213 := Tryd.func66.trans (congrArg some (by kernel_rfl))
  f265 := Tryd.func89.trans (congrArg some (by kernel_rfl))
  t3 := Tryd.underlying3
  a3 := Tryd.isAgg3
  z3 := Tryd.sizeOf3
  v3 := Tryd.zeroValue3
  t9 := Tryd.underlying9
  a9 := Tryd.isAgg9
  z9 := Tryd.sizeOf9
  v9 := Tryd.zeroValue9 }
open Go.RowKit in
/-- strings.Compare: "Compare returns an integer comparing two strings lexicographically. The result will be 0 if a == b, -1 if a < b, and +1 if a > b.": IT RETURNS 'Lib.compareBytes a b'; the world is as it was. (LAID: no walk: one application.) -/
theorem Tryd.strings_Compare (a b : ByteArray) (w : World) :
    Calls Tryd.prog 47 #[.string a, .string b] w fun e w' => e = .returned (.int .i64 (Lib.compareBytes a.data.toList b.data.toList)) ∧ w' = w := Any.strings_Compare Tryd.lays106 a b w
def Tryd.lays155_ren : Go.Shelf.Ren := ⟨fun | 155 => 30 | 154 => 43 | 138 => 59 | 165 => 60 | 143 => 61 | 166 => 62 | 197 => 63 | 169 => 64 | 195 => 83 | 218 => 84 | 240 => 85 | 241 => 86 | 219 => 87 | 260 => 88 | 276 => 98 | 277 => 99 | 217 => 100 | 225 => 101 | 224 => 102 | 267 => 103 | 266 => 104 | 314 => 105 | n => n, fun | 9 => 9 | 3 => 3 | 4 => 4 | 72 => 105 | 0 => 0 | 76 => 109 | 105 => 111 | 21 => 21 | 5 => 5 | 70 => 103 | 20 => 20 | 37 => 25 | 75 => 108 | 127 => 128 | 164 => 135 | 46 => 88 | 119 => 138 | 139 => 141 | 138 => 140 | 146 => 144 | 51 => 143 | 80 => 113 | n => n, fun | 1 => 3 | 3 => 4 | 4 => 5 | n => n⟩
theorem Tryd.lays155 : Go.Proofs.Lays.n155 Tryd.prog Tryd.lays155_ren := {
  mixed := by kernel_rfl
  f138 := Tryd.func59.trans (congrArg some (by kernel_rfl))
  f143 := Tryd.func61.trans (congrArg some (by kernel_rfl))
  f154 := Tryd.func43.trans (congrArg some (by kernel_rfl))
  f155 := Tryd.func30.trans (congrArg some (by kernel_rfl))
  f165 := Tryd.func60.trans (congrArg some (by kernel_rfl))
  f166 := Tryd.func62.trans (congrArg some (by kernel_rfl))
  f169 := Tryd.func64.trans (congrArg some (by kernel_rfl))
  f195 := Tryd.func83.trans (congrArg some (by kernel_rfl))
  f197 := Tryd.func63.trans (congrArg some (by kernel_rfl))
  f217 := Tryd.func100.trans (congrArg some (by kernel_rfl))
  f218 := Tryd.func84.trans (congrArg some (by kernel_rfl))
  f219 := Tryd.func87.trans (congrArg some (by kernel_rfl))
  f224 := Tryd.func102.trans (congrArg some (by kernel_rfl))
  f225 := Tryd.func101.trans (congrArg some (by kernel_rfl))
  f240 := Tryd.func85.trans (congrArg some (by kernel_rfl))
  f241 := Tryd.func86.trans (congrArg some (by kernel_rfl))
  f260 := Tryd.func88.trans (congrArg some (by kernel_rfl))
  f266 := Tryd.func104.trans (congrArg some (by kernel_rfl))
  f267 := Tryd.func103.trans (congrArg some (by kernel_rfl))
  f276 := Tryd.func98.trans (congrArg some (by kernel_rfl))
  f277 := Tryd.func99.trans (congrArg some (by kernel_rfl))
  f314 := Tryd.func105.trans (congrArg some (by kernel_rfl))
  t0 := Tryd.underlying0
  a0 := Tryd.isAgg0
  z0 := Tryd.sizeOf0
  v0 := Tryd.zeroValue0
  t3 := Tryd.underlying3
  a3 := Tryd.isAgg3
  z3 := Tryd.sizeOf3
  v3 := Tryd.zeroValue3
  t4 := Tryd.underlying4
  a4 := Tryd.isAgg4
  z4 := Tryd.sizeOf4
  v4 := Tryd.zeroValue4
  t5 := Tryd.underlying5
  a5 := Tryd.isAgg5
  z5 := Tryd.sizeOf5
  v5 := Tryd.zeroValue5
  t9 := Tryd.underlying9
  a9 := Tryd.isAgg9
  z9 := Tryd.sizeOf9
  v9 := Tryd.zeroValue9
  t20 := Tryd.underlying20
  a20 := Tryd.isAgg20
  z20 := Tryd.sizeOf20
  v20 := Tryd.zeroValue20
  t21 := Tryd.underlying21
  a21 := Tryd.isAgg21
  z21 := Tryd.sizeOf21
  v21 := Tryd.zeroValue21
  t37 := Tryd.underlying25
  a37 := Tryd.isAgg25
  z37 := Tryd.sizeOf25
  v37 := Tryd.zeroValue25
  t46 := Tryd.underlying88
  a46 := Tryd.isAgg88
  z46 := Tryd.sizeOf88
  v46 := Tryd.zeroValue88
  t51 := Tryd.underlying143
  a51 := Tryd.isAgg143
  z51 := Tryd.sizeOf143
  v51 := Tryd.zeroValue143
  t70 := Tryd.underlying103
  a70 := Tryd.isAgg103
  z70 := Tryd.sizeOf103
  v70 := Tryd.zeroValue103
  t72 := Tryd.underlying105
  a72 := Tryd.isAgg105
  z72 := Tryd.sizeOf105
  v72 := Tryd.zeroValue105
  t75 := Tryd.underlying108
  a75 := Tryd.isAgg108
  z75 := Tryd.sizeOf108
  v75 := Tryd.zeroValue108
  t76 := Tryd.underlying109
  a76 := Tryd.isAgg109
  z76 := Tryd.sizeOf109
  v76 := Tryd.zeroValue109
  t105 := Tryd.underlying111
  a105 := Tryd.isAgg111
  z105 := Tryd.sizeOf111
  v105 := Tryd.zeroValue111
  t119 := Tryd.underlying138
  a119 := Tryd.isAgg138
  z119 := Tryd.sizeOf138
  t127 := Tryd.underlying128
  a127 := Tryd.isAgg128
  z127 := Tryd.sizeOf128
  v127 := Tryd.zeroValue128
  t138 := Tryd.underlying140
  a138 := Tryd.isAgg140
  z138 := Tryd.sizeOf140
  v138 := Tryd.zeroValue140
  t139 := Tryd.underlying141
  a139 := Tryd.isAgg141
  z139 := Tryd.sizeOf141
  v139 := Tryd.zeroValue141
  t146 := Tryd.underlying144
  a146 := Tryd.isAgg144
  z146 := Tryd.sizeOf144
  v146 := Tryd.zeroValue144
  t164 := Tryd.underlying135
  a164 := Tryd.isAgg135
  z164 := Tryd.sizeOf135
  v164 := Tryd.zeroValue135
  g1 := by kernel_rfl
  g3 := by kernel_rfl
  g4 := by kernel_rfl }
theorem Tryd.Builder_Extra_155 : Builder.Extra Tryd.prog Tryd.lays155_ren := {
  sizeBuilder := by kernel_rfl
  liesBuilder := by kernel_rfl
  t5 := Tryd.underlying5
  a5 := Tryd.isAgg5
  z5 := Tryd.sizeOf5
  v5 := Tryd.zeroValue5
  infoByte := by kernel_rfl
  cellsByte := by kernel_rfl
  sizeByte := by kernel_rfl
  neB5 := by decide }
open Go.RowKit Go.Lib in
/-- strings.ReplaceAll: "ReplaceAll returns a copy of the string s with all non-overlapping instances of old replaced by new.": AT AN old THAT IS NOT EMPTY: 'Lib.replaceAll s old new'. (LAID: no walk: one application.) -/
theorem Tryd.strings_ReplaceAll (s old new : ByteArray) (m : Int) (w : World) (hs : s.size < 4294967281) (hm : w.cell? ⟨3, 0, none⟩ = some (.int .i64 m)) (h1 : 1 ≤ old.size) (hlen : s.size + Lib.countB s old * new.size ≤ 140737488355328) :
    Calls Tryd.prog 30 #[.string s, .string old, .string new] w fun e w' =>
      e = .returned (.string ⟨(Lib.replaceAll s.data.toList old.data.toList new.data.toList).toArray⟩) ∧ Below w.heap.size w w' := Any.strings_ReplaceAll Tryd.lays155 Tryd.Builder_Extra_155 s old new m w hs hm h1 hlen
def Tryd.laysM155_ren : Go.Shelf.Ren := ⟨fun | 155 => 30 | 154 => 43 | 138 => 59 | 165 => 60 | 143 => 61 | 166 => 62 | 197 => 63 | 169 => 64 | 195 => 83 | 218 => 84 | 240 => 85 | 241 => 86 | 219 => 87 | 260 => 88 | 276 => 98 | 277 => 99 | 217 => 100 | 225 => 101 | 224 => 102 | 267 => 103 | 266 => 104 | 314 => 105 | n => n, fun | 9 => 9 | 3 => 3 | 4 => 4 | 72 => 105 | 0 => 0 | 76 => 109 | 105 => 111 | 21 => 21 | 5 => 5 | 70 => 103 | 20 => 20 | 37 => 25 | 75 => 108 | 127 => 128 | 164 => 135 | 46 => 88 | 119 => 138 | 139 => 141 | 138 => 140 | 146 => 144 | 51 => 143 | 80 => 113 | n => n, fun | 1 => 3 | 3 => 4 | 4 => 5 | n => n⟩
theorem Tryd.laysM155 : Go.Proofs.LaysM.n155 Tryd.prog Tryd.laysM155_ren := {
  mixed := by kernel_rfl
  f138 := Tryd.func59.trans (congrArg some (by kernel_rfl))
  f143 := Tryd.func61.trans (congrArg some (by kernel_rfl))
  f154 := Tryd.func43.trans (congrArg some (by kernel_rfl))
  f155 := Tryd.func30.trans (congrArg some (by kernel_rfl))
  f165 := Tryd.func60.trans (congrArg some (by kernel_rfl))
  f166 := Tryd.func62.trans (congrArg some (by kernel_rfl))
  f169 := Tryd.func64.trans (congrArg some (by kernel_rfl))
  f195 := Tryd.func83.trans (congrArg some (by kernel_rfl))
  f197 := Tryd.func63.trans (congrArg some (by kernel_rfl))
  f217 := Tryd.func100.trans (congrArg some (by kernel_rfl))
  f218 := Tryd.func84.trans (congrArg some (by kernel_rfl))
  f219 := Tryd.func87.trans (congrArg some (by kernel_rfl))
  f224 := Tryd.func102.trans (congrArg some (by kernel_rfl))
  f225 := Tryd.func101.trans (congrArg some (by kernel_rfl))
  f240 := Tryd.func85.trans (congrArg some (by kernel_rfl))
  f241 := Tryd.func86.trans (congrArg some (by kernel_rfl))
  f260 := Tryd.func88.trans (congrArg some (by kernel_rfl))
  f266 := Tryd.func104.trans (congrArg some (by kernel_rfl))
  f267 := Tryd.func103.trans (congrArg some (by kernel_rfl))
  f276 := Tryd.func98.trans (congrArg some (by kernel_rfl))
  f277 := Tryd.func99.trans (congrArg some (by kernel_rfl))
  f314 := Tryd.func105.trans (congrArg some (by kernel_rfl))
  t0 := Tryd.underlying0
  a0 := Tryd.isAgg0
  z0 := Tryd.sizeOf0
  v0 := Tryd.zeroValue0
  t3 := Tryd.underlying3
  a3 := Tryd.isAgg3
  z3 := Tryd.sizeOf3
  v3 := Tryd.zeroValue3
  t4 := Tryd.underlying4
  a4 := Tryd.isAgg4
  z4 := Tryd.sizeOf4
  v4 := Tryd.zeroValue4
  t5 := Tryd.underlying5
  a5 := Tryd.isAgg5
  z5 := Tryd.sizeOf5
  v5 := Tryd.zeroValue5
  t9 := Tryd.underlying9
  a9 := Tryd.isAgg9
  z9 := Tryd.sizeOf9
  v9 := Tryd.zeroValue9
  t20 := Tryd.underlying20
  a20 := Tryd.isAgg20
  z20 := Tryd.sizeOf20
  v20 := Tryd.zeroValue20
  t21 := Tryd.underlying21
  a21 := Tryd.isAgg21
  z21 := Tryd.sizeOf21
  v21 := Tryd.zeroValue21
  t37 := Tryd.underlying25
  a37 := Tryd.isAgg25
  z37 := Tryd.sizeOf25
  v37 := Tryd.zeroValue25
  t46 := Tryd.underlying88
  a46 := Tryd.isAgg88
  z46 := Tryd.sizeOf88
  v46 := Tryd.zeroValue88
  t51 := Tryd.underlying143
  a51 := Tryd.isAgg143
  z51 := Tryd.sizeOf143
  v51 := Tryd.zeroValue143
  t70 := Tryd.underlying103
  a70 := Tryd.isAgg103
  z70 := Tryd.sizeOf103
  v70 := Tryd.zeroValue103
  t72 := Tryd.underlying105
  a72 := Tryd.isAgg105
  z72 := Tryd.sizeOf105
  v72 := Tryd.zeroValue105
  t75 := Tryd.underlying108
  a75 := Tryd.isAgg108
  z75 := Tryd.sizeOf108
  v75 := Tryd.zeroValue108
  t76 := Tryd.underlying109
  a76 := Tryd.isAgg109
  z76 := Tryd.sizeOf109
  v76 := Tryd.zeroValue109
  t105 := Tryd.underlying111
  a105 := Tryd.isAgg111
  z105 := Tryd.sizeOf111
  v105 := Tryd.zeroValue111
  t119 := Tryd.underlying138
  a119 := Tryd.isAgg138
  z119 := Tryd.sizeOf138
  t127 := Tryd.underlying128
  a127 := Tryd.isAgg128
  z127 := Tryd.sizeOf128
  v127 := Tryd.zeroValue128
  t138 := Tryd.underlying140
  a138 := Tryd.isAgg140
  z138 := Tryd.sizeOf140
  v138 := Tryd.zeroValue140
  t139 := Tryd.underlying141
  a139 := Tryd.isAgg141
  z139 := Tryd.sizeOf141
  v139 := Tryd.zeroValue141
  t146 := Tryd.underlying144
  a146 := Tryd.isAgg144
  z146 := Tryd.sizeOf144
  v146 := Tryd.zeroValue144
  t164 := Tryd.underlying135
  a164 := Tryd.isAgg135
  z164 := Tryd.sizeOf135
  v164 := Tryd.zeroValue135
  g1 := by kernel_rfl
  g3 := by kernel_rfl
  g4 := by kernel_rfl
  t80 := Tryd.underlying113
  a80 := Tryd.isAgg113
  z80 := Tryd.sizeOf113
  v80 := Tryd.zeroValue113
  i0 := by kernel_rfl
  i3 := by kernel_rfl
  i4 := by kernel_rfl
  i5 := by kernel_rfl
  i9 := by kernel_rfl
  i20 := by kernel_rfl
  i21 := by kernel_rfl
  i37 := by kernel_rfl
  i46 := by kernel_rfl
  i51 := by kernel_rfl
  i70 := by kernel_rfl
  i72 := by kernel_rfl
  i75 := by kernel_rfl
  i76 := by kernel_rfl
  i80 := by kernel_rfl
  i105 := by kernel_rfl
  i127 := by kernel_rfl
  i138 := by kernel_rfl
  i139 := by kernel_rfl
  i146 := by kernel_rfl
  i164 := by kernel_rfl
  m1 := by kernel_rfl
  s1_3 := fun w h => Go.Proofs.cell_of_shapedOpen_int (zero := #[.int .i64 0]) (t := 3) h (of_decide_eq_true (by kernel_rfl)) (by kernel_rfl) rfl (by kernel_rfl) (by kernel_rfl) Tryd.underlying3
  m3 := by kernel_rfl
  m4 := by kernel_rfl }
end Go.Proofs

namespace Go.Proofs.YtoemmoeedhllfaaDoor.Cd
open Go.RowKit V Pk Vl
set_option linter.unusedVariables false
set_option linter.unusedSimpArgs false

theorem repl_one (c : UInt8) (new : List UInt8) : ∀ s : List UInt8, Lib.replaceK [c] new (s.count c) s = s.flatMap fun b => if b = c then new else [b]
  | [] => rfl
  | b :: l => by
    have ih := repl_one c new l
    by_cases h : b = c
    · subst h
      have hi : Lib.index (b :: l) [b] = ((0 : Nat) : Int) := by rw [Lib.index_one]; simp [Lib.indexByte]
      rw [List.count_cons_self, Lib.replaceK_hit _ _ _ _ _ hi, List.flatMap_cons, if_pos rfl, ← ih]
      simp
    · have hc : (b :: l).count c = l.count c := List.count_cons_of_ne h
      rw [hc, List.flatMap_cons, if_neg h, ← ih]
      cases hk : l.count c with
      | zero => rfl
      | succ k =>
        obtain ⟨i, hi⟩ := Lib.index_of_count (s := l) (old := [c]) (by rw [Lib.count_one]; omega)
        have hi2 : Lib.index (b :: l) [c] = ((i + 1 : Nat) : Int) := by
          rw [Lib.index_one] at hi ⊢
          unfold Lib.indexByte
          rw [if_neg (by simpa using h), hi, if_neg (by rw [beq_iff_eq]; omega)]
          omega
        rw [Lib.replaceK_hit _ _ _ _ _ hi2, Lib.replaceK_hit _ _ _ _ _ hi]
        simp
def replS (c : UInt8) (new : List UInt8) (s : ByteArray) : ByteArray := ⟨(s.data.toList.flatMap fun b => if b = c then new else [b]).toArray⟩
theorem replAll_one (c : UInt8) (new s : List UInt8) : Lib.replaceAll s [c] new = s.flatMap fun b => if b = c then new else [b] := by
  unfold Lib.replaceAll Lib.replace Lib.replaceNum
  split
  · rename_i h
    have h' : [c] = new := by simpa using h
    subst h'
    induction s with
    | nil => rfl
    | cons b l ih =>
      rw [List.flatMap_cons, ← ih]
      have : (if b = c then [c] else [b]) = [b] := by
        split
        · rename_i e; rw [e]
        · rfl
      rw [this]; rfl
  · rw [if_pos (.inl (by decide)), Lib.count_one, repl_one]
variable {G : List (Nat × List Value)} {m : Int}
theorem repl_vp (hG : (3, [Value.int .i64 m]) ∈ G) (c : UInt8) (new : ByteArray) (s : ByteArray) (hs : s.size ≤ 1000000) (hn : new.size ≤ 1000) : VP Tryd.prog G 30 [.v (.string s), .v (.string ⟨#[c]⟩), .v (.string new)] (.v (.string (replS c new.data.toList s))) := by
  have hc : Lib.countB s ⟨#[c]⟩ ≤ 1000000 := by
    show Lib.count s.data.toList [c] ≤ 1000000
    rw [Lib.count_one]
    exact Nat.le_trans List.count_le_length (by rw [str_len]; exact hs)
  have hmul : Lib.countB s ⟨#[c]⟩ * new.size ≤ 1000000 * 1000 := Nat.mul_le_mul hc hn
  have key := VP.ofCalls (P := Tryd.prog) (G := G) (f := 30) (vs := [.string s, .string ⟨#[c]⟩, .string new]) (v := .string (replS c new.data.toList s)) fun w htab => by
    refine (Tryd.strings_ReplaceAll s ⟨#[c]⟩ new m w (by omega) (htab _ hG 0 _ rfl) (Nat.le_refl _) (by omega)).mono fun e w' ⟨h1, h2⟩ => ⟨?_, h2⟩
    rw [h1]
    congr 2
    show (⟨(Lib.replaceAll s.data.toList [c] new.data.toList).toArray⟩ : ByteArray) = _
    rw [replAll_one]; rfl
  exact key

/-! ### Keys -/
def kb (v : Vl) : UInt8 := UInt8.ofNat v.k.toNat
def nb (v : Vl) : UInt8 := UInt8.ofNat v.n.toNat
def uN (v : Vl) : Nat := (v.n + 9223372036854775808).toNat
def beAt (u k : Nat) : UInt8 := UInt8.ofNat (u / 256 ^ (7 - k))
def be8 (u : Nat) : List UInt8 := (List.range 8).map (beAt u)
def escL (s : List UInt8) : List UInt8 := s.flatMap fun b => if b = 0 then [0, 255] else [b]
def payV (v : Vl) : List UInt8 := if v.k = 1 then [nb v] else if v.k = 2 then be8 (uN v) else if v.k = 3 then escL v.s.data.toList ++ [0, 0] else []
def encV (v : Vl) : List UInt8 := kb v :: payV v
def encL (l : List Vl) : List UInt8 := l.flatMap encV
def errV : List Vl → Int
  | [] => 0
  | v :: r => if checkV v = 0 then errV r else checkV v
/-- What Encode answers. -/
def encR (l : List Vl) : List UInt8 × Int := if l.length > 6 then ([], 1) else if errV l ≠ 0 then ([], errV l) else if (encL l).length > 100 then ([], 5) else (encL l, 0)
def bytesL (b : List UInt8) : D := .list 1 (b.flatMap cB) b.length
def encD (r : List UInt8 × Int) : D := .tup [bytesL r.1, .v (.int .i64 r.2)]
theorem errV_no : ∀ {l : List Vl} {i : Nat} (hi : i < l.length), (∀ v ∈ l.take i, checkV v = 0) → checkV l[i] ≠ 0 → errV l = checkV l[i]
  | v :: r, 0, hi, _, h => by
    have h' : checkV v ≠ 0 := h
    show errV (v :: r) = checkV v
    rw [errV, if_neg h']
  | v :: r, i + 1, hi, h0, h => by
    rw [errV, if_pos (h0 v (by simp))]
    exact errV_no (l := r) (i := i) (by simpa using hi) (fun x hx => h0 x (by rw [List.take_succ_cons]; exact List.mem_cons_of_mem _ hx)) h
theorem errV_ok : ∀ {l : List Vl}, (∀ v ∈ l, checkV v = 0) → errV l = 0
  | [], _ => rfl
  | v :: r, h => by rw [errV, if_pos (h v List.mem_cons_self)]; exact errV_ok fun x hx => h x (List.mem_cons_of_mem _ hx)
theorem check_kind {v : Vl} (h : checkV v = 0) : 0 ≤ v.k ∧ v.k ≤ 3 := by
  unfold checkV at h
  split at h
  · omega
  · split at h
    · omega
    · split at h
      · omega
      · split at h
        · omega
        · cases h
theorem check_bool {v : Vl} (h : checkV v = 0) (hk : v.k = 1) : 0 ≤ v.n ∧ v.n ≤ 1 := by
  unfold checkV at h
  rw [if_neg (by omega), if_pos hk] at h
  split at h
  · cases h
  · omega
theorem check_text {v : Vl} (h : checkV v = 0) (hk : v.k = 3) : v.s.size ≤ 20 := by
  unfold checkV at h
  rw [if_neg (by omega), if_neg (by omega), if_neg (by omega), if_pos hk] at h
  split at h
  · cases h
  · split at h
    · cases h
    · omega
theorem kb_nat {v : Vl} (h : checkV v = 0) : ((kb v).toNat : Int) = v.k := by
  have := check_kind h
  unfold kb
  rw [UInt8.toNat_ofNat']
  omega
theorem nb_nat {v : Vl} (h : checkV v = 0) (hk : v.k = 1) : ((nb v).toNat : Int) = v.n := by
  have := check_bool h hk
  unfold nb
  rw [UInt8.toNat_ofNat']
  omega
theorem kb_wrap {v : Vl} (h : checkV v = 0) : IntKind.u8.wrap v.k = ((kb v).toNat : Int) := by
  have := check_kind h
  rw [kb_nat h]
  show v.k % 256 = _
  omega
theorem nb_wrap {v : Vl} (h : checkV v = 0) (hk : v.k = 1) : IntKind.u8.wrap v.n = ((nb v).toNat : Int) := by
  have := check_bool h hk
  rw [nb_nat h hk]
  show v.n % 256 = _
  omega
theorem uN_int {v : Vl} (h : v.Ok) : ((uN v : Nat) : Int) = v.n + 9223372036854775808 := by have := h.n1; unfold uN; omega
theorem shr_at {u k : Nat} (hk : k ≤ 7) : (u : Int).fdiv (2 ^ min ((56 : Int) - 8 * (k : Int)).toNat IntKind.u64.bits) = ((u / 256 ^ (7 - k) : Nat) : Int) := by
  have e1 : min ((56 : Int) - 8 * (k : Int)).toNat IntKind.u64.bits = 8 * (7 - k) := by
    show min _ 64 = _
    omega
  have e3 : (2 ^ (8 * (7 - k)) : Nat) = 256 ^ (7 - k) := by rw [Nat.pow_mul]
  have e2 : ((2 : Int) ^ (8 * (7 - k))) = ((256 ^ (7 - k) : Nat) : Int) := by
    rw [← e3, Int.natCast_pow]; rfl
  rw [e1, e2]
  exact (Int.ofNat_fdiv _ _).symm
theorem u8_wrap (x : Nat) : IntKind.u8.wrap (x : Int) = ((UInt8.ofNat x).toNat : Int) := by
  rw [UInt8.toNat_ofNat']
  show (x : Int) % 256 = _
  omega
theorem be_step {u k : Nat} (hk : k ≤ 7) : (be8 u).take k ++ [beAt u k] = (be8 u).take (k + 1) := by
  have hl : k < (be8 u).length := by simp [be8]; omega
  rw [List.take_succ_eq_append_getElem hl]
  congr 2
  simp [be8]
theorem be_len (u : Nat) : (be8 u).length = 8 := by simp [be8]
theorem esc_len (s : List UInt8) : (escL s).length ≤ 2 * s.length := by
  induction s with
  | nil => simp [escL]
  | cons b l ih =>
    unfold escL at ih ⊢
    rw [List.flatMap_cons, List.length_append, List.length_cons]
    split <;> simp only [List.length_cons, List.length_nil] <;> omega
theorem enc_len {v : Vl} (h : checkV v = 0) : (encV v).length ≤ 43 := by
  unfold encV payV
  rw [List.length_cons]
  split
  · simp
  · split
    · rw [be_len]; omega
    · split
      · rename_i hk
        have h1 := check_text h hk
        have h2 := esc_len v.s.data.toList
        rw [str_len] at h2
        rw [List.length_append]; simp; omega
      · simp
theorem encL_len : ∀ {l : List Vl}, (∀ v ∈ l, checkV v = 0) → (encL l).length ≤ 43 * l.length
  | [], _ => Nat.le_refl _
  | v :: r, h => by
    have h1 := enc_len (h v List.mem_cons_self)
    have h2 := encL_len (l := r) fun x hx => h x (List.mem_cons_of_mem _ hx)
    unfold encL at h2 ⊢
    rw [List.flatMap_cons, List.length_append, List.length_cons]
    omega
theorem encL_step {l : List Vl} {i : Nat} (hi : i < l.length) : encL (l.take i) ++ encV l[i] = encL (l.take (i + 1)) := by
  unfold encL
  rw [List.take_succ_eq_append_getElem hi, List.flatMap_append]
  simp
theorem pay_1 {v : Vl} (h : v.k = 1) : payV v = [nb v] := if_pos h
theorem pay_2 {v : Vl} (h : v.k = 2) : payV v = be8 (uN v) := by unfold payV; rw [if_neg (by omega), if_pos h]
theorem pay_3 {v : Vl} (h : v.k = 3) : payV v = escL v.s.data.toList ++ [0, 0] := by unfold payV; rw [if_neg (by omega), if_neg (by omega), if_pos h]
theorem pay_0 {v : Vl} (h1 : ¬ v.k = 1) (h2 : ¬ v.k = 2) (h3 : ¬ v.k = 3) : payV v = [] := by unfold payV; rw [if_neg h1, if_neg h2, if_neg h3]
theorem esc_repl (s : ByteArray) : (replS 0 [0, 255] s).data.toList = escL s.data.toList := rfl

theorem info5_Cd1 : (Tryd.prog.info? 5).map (fun i => (i.zero, i.size, i.bytes)) = some (some (.int .u8 0), 1, 1) := by kernel_rfl

set_option maxHeartbeats 4000000 in
set_option maxRecDepth 100000 in
theorem enc_vp (hG : (3, [Value.int .i64 m]) ∈ G) (l : List Vl) (hl : l.length ≤ maxLen) (hok : ∀ v ∈ l, v.Ok) : VP Tryd.prog G 14 [.list 3 (l.flatMap cV) l.length] (encD (encR l)) := by
  refine VC.body Tryd.func14 rfl Tryd.ntmps14 (Nat.le_of_ble_eq_true rfl) fun X0 w0 S00 => ?_
  refine CD.seq ?_
  refine CD.region ?_
  refine OD.still (wants_plain rfl) rfl (still_as rfl opd_const) ?_
  refine OD.still (wants_plain rfl) rfl (still_as rfl opd_const) ?_
  refine OD.wk (Wk.as_ (n := 72) (l' := [(0, _)]) (S' := []) rfl rfl ⟨lk, trivial⟩) ?_
  refine OD.nil ?_
  refine CD.seq ?_
  refine CD.seq ?_
  refine CD.region ?_
  refine OD.still (wants_plain rfl) rfl (still_mv rfl ot) ?_
  refine OD.still (wants_plain rfl) rfl (still_r1 (mk := fun y => .call { callee := .builtin .len, args := #[y], argTypes := #[23] }) rfl ot (by first | exact len_list rfl Tryd.runUnderlying23 | exact len_row rfl Tryd.runUnderlying23)) ?_
  refine OD.still (wants_plain rfl) rfl (still_bin rfl ot opd_const bin_gtr) ?_
  refine OD.wk (Wk.as_ (n := 72) (l' := [(0, _), (12, _)]) (S' := []) rfl rfl ⟨lk, lk, trivial⟩) ?_
  refine OD.nil ?_
  refine CD.cond ot (fun hc0 => ?_) (fun hc0 => ?_)
  · have hc0' := hc0
    (try simp only [decide_eq_true_eq, decide_eq_false_iff_not, beq_iff_eq, bne_iff_ne, Bool.not_eq_true', Bool.not_eq_false', Bool.not_eq_true, Bool.not_eq_false, beq_eq_false_iff_ne, ne_eq, bne_eq_false_iff_eq, Bool.and_eq_true, Bool.or_eq_true, Bool.not_not, Bool.and_eq_false_iff, Bool.or_eq_false_iff, Int.not_lt, Int.not_le] at hc0')
    have hres : encR l = ([], 1) := if_pos (by omega)
    refine CD.seq ?_
    refine CD.region ?_
    refine OD.still (wants_plain rfl) rfl (still_as rfl opd_const) ?_
    refine OD.still (wants_plain rfl) rfl (still_as rfl opd_const) ?_
    refine OD.wk (Wk.as_ (n := 72) (l' := [(2, _), (3, _)]) (S' := []) rfl rfl ⟨lk, lk, trivial⟩) ?_
    refine OD.nil ?_
    refine CD.wk (Wk.giveNil (t := 2) (sz := 1) lk) ?_
    refine CD.ret ?_
    refine ⟨.inr rfl, _, [], List.nil_sublist _, ret_two Tryd.results14 (res_tmp (Nat.le_of_ble_eq_true rfl) lk) (res_tmp (Nat.le_of_ble_eq_true rfl) lk), ?_⟩
    first | (rw [hres]; exact ⟨rfl, rfl⟩) | (rw [hres, ← htk]; exact ⟨rfl, rfl⟩)
  · have hc0' := hc0
    (try simp only [decide_eq_true_eq, decide_eq_false_iff_not, beq_iff_eq, bne_iff_ne, Bool.not_eq_true', Bool.not_eq_false', Bool.not_eq_true, Bool.not_eq_false, beq_eq_false_iff_ne, ne_eq, bne_eq_false_iff_eq, Bool.and_eq_true, Bool.or_eq_true, Bool.not_not, Bool.and_eq_false_iff, Bool.or_eq_false_iff, Int.not_lt, Int.not_le] at hc0')
    have h6 : l.length ≤ 6 := by omega
    refine CD.skip ?_
    refine CD.seq ?_
    refine CD.region ?_
    refine OD.still (wants_plain rfl) rfl (still_as rfl opd_const) ?_
    refine OD.wk (Wk.as_ (n := 72) (l' := [(0, _), (4, _)]) (S' := ([])) rfl rfl ⟨lk, lk, trivial⟩) ?_
    refine OD.nil ?_
    refine CD.seq ?_
    refine CD.seq ?_
    refine CD.region ?_
    refine OD.still (wants_plain rfl) rfl (still_mv rfl ot) ?_
    refine OD.still (wants_plain rfl) rfl (still_r1 (mk := fun y => .call { callee := .builtin .len, args := #[y], argTypes := #[23] }) rfl ot (by first | exact len_list rfl Tryd.runUnderlying23 | exact len_row rfl Tryd.runUnderlying23)) ?_
    refine OD.still (wants_plain rfl) rfl (still_mv rfl opd_const) ?_
    refine OD.wk (Wk.as_ (n := 72) (l' := [(4, _), (13, _), (14, _), (15, _)]) (S' := ([])) rfl rfl ⟨lk, lk, lk, lk, trivial⟩) ?_
    refine OD.nil ?_
    refine CD.block ?_
    refine CD.wk (Wk.asS (n := 72) (l' := [(4, .v (.slice none (encL (l.take (0))).length (0))), (13, .list 3 (l.flatMap cV) l.length), (14, .v (.int .i64 l.length)), (15, .v (.int .i64 ((0) : Nat)))]) (S' := (([]))) rfl (by repeat (first | exact List.Sublist.refl _ | apply List.Sublist.cons_cons | apply List.Sublist.cons)) ⟨(by (repeat (first | exact look_hit | (apply look_at; focus (first | rfl | (simp; done) | (congr 2; omega) | (apply row_eq; rw [← encL_step hlt]; unfold encV; first | (rw [pay_1 (by assumption)]; simp; done) | (rw [pay_2 (by assumption), List.take_of_length_le (l := be8 (uN l[i])) (by rw [be_len]; omega)]; simp; done) | (rw [pay_3 (by assumption), ← esc_repl]; simp; done) | (rw [pay_0 (by assumption) (by assumption) (by assumption)]; done)) | (apply row_eq; rfl) | (apply row_eq; simp; done))) | (apply look_miss; focus rfl))); done), (by (repeat (first | exact look_hit | (apply look_at; focus (first | rfl | (simp; done) | (congr 2; omega) | (apply row_eq; rw [← encL_step hlt]; unfold encV; first | (rw [pay_1 (by assumption)]; simp; done) | (rw [pay_2 (by assumption), List.take_of_length_le (l := be8 (uN l[i])) (by rw [be_len]; omega)]; simp; done) | (rw [pay_3 (by assumption), ← esc_repl]; simp; done) | (rw [pay_0 (by assumption) (by assumption) (by assumption)]; done)) | (apply row_eq; rfl) | (apply row_eq; simp; done))) | (apply look_miss; focus rfl))); done), (by (repeat (first | exact look_hit | (apply look_at; focus (first | rfl | (simp; done) | (congr 2; omega) | (apply row_eq; rw [← encL_step hlt]; unfold encV; first | (rw [pay_1 (by assumption)]; simp; done) | (rw [pay_2 (by assumption), List.take_of_length_le (l := be8 (uN l[i])) (by rw [be_len]; omega)]; simp; done) | (rw [pay_3 (by assumption), ← esc_repl]; simp; done) | (rw [pay_0 (by assumption) (by assumption) (by assumption)]; done)) | (apply row_eq; rfl) | (apply row_eq; simp; done))) | (apply look_miss; focus rfl))); done), (by (repeat (first | exact look_hit | (apply look_at; focus (first | rfl | (simp; done) | (congr 2; omega) | (apply row_eq; rw [← encL_step hlt]; unfold encV; first | (rw [pay_1 (by assumption)]; simp; done) | (rw [pay_2 (by assumption), List.take_of_length_le (l := be8 (uN l[i])) (by rw [be_len]; omega)]; simp; done) | (rw [pay_3 (by assumption), ← esc_repl]; simp; done) | (rw [pay_0 (by assumption) (by assumption) (by assumption)]; done)) | (apply row_eq; rfl) | (apply row_eq; simp; done))) | (apply look_miss; focus rfl))); done), trivial⟩) (CD.loop (fun (gh__ : Nat × Option Addr × Nat × List Blk) y__ => match gh__ with | (i, adb, cpb, Sb) => (i ≤ l.length) ∧ (∀ v ∈ l.take i, checkV v = 0) ∧ (OwnL 5 1 ((encL (l.take i)).flatMap cB) (encL (l.take i)).length adb cpb Sb) ∧ y__ = (⟨72, [(4, .v (.slice adb (encL (l.take i)).length cpb)), (13, .list 3 (l.flatMap cV) l.length), (14, .v (.int .i64 l.length)), (15, .v (.int .i64 (i : Nat)))], (Sb)⟩ : St)) (fun (gh__ : Nat × Option Addr × Nat × List Blk) => match gh__ with | (i, adb, cpb, Sb) => l.length - i) (0, none, 0, []) ⟨(Nat.zero_le _), (by simp), (OwnL.cast ownL_nil (by rfl)), rfl⟩ ?_)
    rintro ⟨i, adb, cpb, Sb⟩ _ ⟨hi, h0, hob, rfl⟩
    refine CD.seq ?_
    refine CD.region ?_
    refine OD.still (wants_plain rfl) rfl (still_bin rfl ot ot bin_lss) ?_
    refine OD.wk (Wk.as_ (n := 72) (l' := [(4, _), (13, _), (14, _), (15, _), (16, _)]) (S' := (Sb)) rfl rfl ⟨lk, lk, lk, lk, lk, trivial⟩) ?_
    refine OD.nil ?_
    refine CD.seq ?_
    refine CD.cond ot (fun hc1 => ?_) (fun hc1 => ?_)
    · have hc1' := hc1
      (try simp only [decide_eq_true_eq, decide_eq_false_iff_not, beq_iff_eq, bne_iff_ne, Bool.not_eq_true', Bool.not_eq_false', Bool.not_eq_true, Bool.not_eq_false, beq_eq_false_iff_ne, ne_eq, bne_eq_false_iff_eq, Bool.and_eq_true, Bool.or_eq_true, Bool.not_not, Bool.and_eq_false_iff, Bool.or_eq_false_iff, Int.not_lt, Int.not_le] at hc1')
      have hlt : i < l.length := by omega
      have hbl := encL_len h0
      rw [List.length_take] at hbl
      have hmx : maxLen = 9223372036854775807 := rfl
      have hvo := hok _ (List.getElem_mem hlt)
      refine CD.skip ?_
      refine CD.seq ?_
      refine CD.block ?_
      refine CD.seq ?_
      refine CD.region ?_
      refine OD.still (wants_plain rfl) rfl (still_r2 (mk := Op.indexAddr 23) rfl ot ot (by first | exact ix_list Tryd.runUnderlying23 Tryd.sizeOf30 rfl (by first | assumption | omega) | exact ix_list (j := Int.toNat _) Tryd.runUnderlying23 Tryd.sizeOf30 (Int.toNat_of_nonneg (by omega)).symm (by omega) | exact ix_row Tryd.runUnderlying23 Tryd.sizeOf30 rfl (by first | assumption | omega) | exact ix_row (j := Int.toNat _) Tryd.runUnderlying23 Tryd.sizeOf30 (Int.toNat_of_nonneg (by omega)).symm (by omega))) ?_
      refine OD.still (wants_plain rfl) rfl (still_r1 (mk := Op.load 30) rfl ot (by first | exact ld_fms cV_len Tryd.isAgg30 Tryd.sizeOf30 (by first | assumption | omega) | exact ld_is (ds := [_, _, _]) Tryd.isAgg30 Tryd.sizeOf30 rfl rfl)) ?_
      refine OD.alloc (ds := [_, _, _]) (wants_plain rfl) rfl rfl Tryd.zeroValue30 rfl (fun b6 => ?_)
      refine OD.store (k := 0) (cs' := [_, _, _]) (wants_plain rfl) rfl rfl ot rfl rfl ot rfl rfl Tryd.sizeOf30 rfl rfl rfl ?_
      refine OD.wk (Wk.as_ (n := 72) (l' := [(4, _), (6, _), (13, _), (14, _), (15, _)]) (S' := (⟨b6, 30, 3, [_, _, _]⟩ :: Sb)) rfl rfl ⟨lk, lk, lk, lk, lk, trivial⟩) ?_
      refine OD.nil ?_
      refine CD.seq ?_
      refine CD.seq ?_
      refine CD.region ?_
      refine OD.still (wants_plain rfl) rfl (still_r1 (mk := Op.load 30) rfl ot (by first | exact ld_blks (k := 0) (ds := [_, _, _]) rfl rfl Tryd.isAgg30 Tryd.sizeOf30 rfl rfl | exact ld_fms cV_len Tryd.isAgg30 Tryd.sizeOf30 (by first | assumption | omega) | exact ld_rows (k := 0) cV_len rfl rfl rfl Tryd.isAgg30 Tryd.sizeOf30 (by first | assumption | omega) | exact ld_is (ds := [_, _, _]) Tryd.isAgg30 Tryd.sizeOf30 rfl rfl)) ?_
      refine OD.callP (wants_plain rfl) rfl rfl rfl Tryd.call29 (Vl.check_vp l[i]) ⟨ot, trivial⟩ ?_
      refine OD.still (wants_plain rfl) rfl (still_as rfl ot) ?_
      refine OD.wk (Wk.as_ (n := 72) (l' := [(4, _), (6, _), (7, _), (13, _), (14, _), (15, _)]) (S' := (⟨b6, 30, 3, [_, _, _]⟩ :: Sb)) rfl rfl ⟨lk, lk, lk, lk, lk, lk, trivial⟩) ?_
      refine OD.nil ?_
      refine CD.seq ?_
      refine CD.region ?_
      refine OD.still (wants_plain rfl) rfl (still_mv rfl ot) ?_
      refine OD.still (wants_plain rfl) rfl (still_bin rfl ot opd_const bin_neq) ?_
      refine OD.wk (Wk.as_ (n := 72) (l' := [(4, _), (6, _), (7, _), (13, _), (14, _), (15, _), (22, _)]) (S' := (⟨b6, 30, 3, [_, _, _]⟩ :: Sb)) rfl rfl ⟨lk, lk, lk, lk, lk, lk, lk, trivial⟩) ?_
      refine OD.nil ?_
      refine CD.cond ot (fun hc2 => ?_) (fun hc2 => ?_)
      · have hc2' := hc2
        (try simp only [decide_eq_true_eq, decide_eq_false_iff_not, beq_iff_eq, bne_iff_ne, Bool.not_eq_true', Bool.not_eq_false', Bool.not_eq_true, Bool.not_eq_false, beq_eq_false_iff_ne, ne_eq, bne_eq_false_iff_eq, Bool.and_eq_true, Bool.or_eq_true, Bool.not_not, Bool.and_eq_false_iff, Bool.or_eq_false_iff, Int.not_lt, Int.not_le] at hc2')
        have hne : checkV l[i] ≠ 0 := by simpa using hc2
        have hres : encR l = ([], checkV l[i]) := by unfold encR; rw [if_neg (by omega), errV_no hlt h0 hne, if_pos hne]
        refine CD.seq ?_
        refine CD.region ?_
        refine OD.still (wants_plain rfl) rfl (still_mv rfl ot) ?_
        refine OD.still (wants_plain rfl) rfl (still_as rfl opd_const) ?_
        refine OD.still (wants_plain rfl) rfl (still_as rfl ot) ?_
        refine OD.wk (Wk.as_ (n := 72) (l' := [(2, _), (3, _)]) (S' := (⟨b6, 30, 3, [_, _, _]⟩ :: Sb)) rfl rfl ⟨lk, lk, trivial⟩) ?_
        refine OD.nil ?_
        refine CD.wk (Wk.giveNil (t := 2) (sz := 1) lk) ?_
        refine CD.ret ?_
        refine ⟨.inr rfl, _, [], List.nil_sublist _, ret_two Tryd.results14 (res_tmp (Nat.le_of_ble_eq_true rfl) lk) (res_tmp (Nat.le_of_ble_eq_true rfl) lk), ?_⟩
        first | (rw [hres]; exact ⟨rfl, rfl⟩) | (rw [hres, ← htk]; exact ⟨rfl, rfl⟩)
      · have hc2' := hc2
        (try simp only [decide_eq_true_eq, decide_eq_false_iff_not, beq_iff_eq, bne_iff_ne, Bool.not_eq_true', Bool.not_eq_false', Bool.not_eq_true, Bool.not_eq_false, beq_eq_false_iff_ne, ne_eq, bne_eq_false_iff_eq, Bool.and_eq_true, Bool.or_eq_true, Bool.not_not, Bool.and_eq_false_iff, Bool.or_eq_false_iff, Int.not_lt, Int.not_le] at hc2')
        have hchk : checkV l[i] = 0 := by simpa using hc2
        refine CD.skip ?_
        refine CD.seq ?_
        refine CD.region ?_
        refine OD.still (wants_plain rfl) rfl (still_mv rfl ot) ?_
        refine OD.still (wants_plain rfl) rfl (still_r1 (mk := fun y => Op.fieldAddr 30 y 0) rfl ot (by first | exact fa_ptr (off := 0) Tryd.runUnderlying30 rfl Tryd.sizeOf3 rfl | exact fa_iptr (off := 0) Tryd.runUnderlying30 rfl Tryd.sizeOf3 rfl)) ?_
        refine OD.still (wants_plain rfl) rfl (still_r1 (mk := Op.load 3) rfl ot (by first | exact ld_blk (k := 0) rfl rfl Tryd.isAgg3 rfl | exact ld_fm cV_len Tryd.isAgg3 (by first | assumption | omega) rfl | exact ld_fm0 cV_len Tryd.isAgg3 (by first | assumption | omega) rfl | exact ld_row (k := 0) cV_len rfl rfl rfl Tryd.isAgg3 (by first | assumption | omega) rfl | exact ld_row0 (k := 0) cV_len rfl rfl rfl Tryd.isAgg3 (by first | assumption | omega) rfl | exact ld_i Tryd.isAgg3 rfl)) ?_
        refine OD.still (wants_plain rfl) rfl (still_conv (r := .int .u8 ((kb l[i]).toNat : Int)) rfl ot (conv_int Tryd.runUnderlying3 Tryd.runUnderlying5 (kb_wrap hchk))) ?_
        refine OD.bldS (pl := [(0, _)]) (zvs := [.int .u8 0]) (ds := [_]) (wants_plain rfl) rfl rfl Tryd.zeroValue5 Tryd.runUnderlying25 Tryd.sizeOf5 rfl rfl (by kernel_rfl) ⟨rfl, ot, trivial⟩ rfl rfl (fun b28 => ?_)
        refine OD.give (k := 0) (t := 28) (sz := 1) (m := 1) rfl lk rfl rfl rfl (Nat.le_refl _) (by decide) ?_
        refine OD.appendG (ls := (encL (l.take i))) (new := [kb l[i]]) (Sq := Sb) cB_len cB_one (wants_plain rfl) rfl rfl Tryd.underlying25 info5_Cd1 rfl (by decide) ot hob (perm_r11 (A := [_])) ot (by simp) (by have hmx : maxLen = 9223372036854775807 := rfl; (try simp only [List.length_append, List.length_cons, List.length_nil, List.length_take, be_len]); omega) (by have hmx : maxLen = 9223372036854775807 := rfl; (try simp only [List.length_append, List.length_cons, List.length_nil, List.length_take, be_len]); omega) (fun b29 cp29 h129 h229 => ?_)
        refine OD.perm (perm_q11 (S1 := [⟨b29, 5, cp29 * 1, List.flatMap cB ((encL (l.take i)) ++ [kb l[i]])⟩]) (A := [_])) ?_
        refine OD.still (wants_plain rfl) rfl (still_as rfl ot) ?_
        refine OD.wk (Wk.as_ (n := 72) (l' := [(4, _), (6, _), (13, _), (14, _), (15, _)]) (S' := (⟨b6, 30, 3, [_, _, _]⟩ :: [⟨b29, 5, cp29 * 1, List.flatMap cB ((encL (l.take i)) ++ [kb l[i]])⟩])) rfl rfl ⟨lk, lk, lk, lk, lk, trivial⟩) ?_
        refine OD.nil ?_
        refine CD.seq ?_
        refine CD.region ?_
        refine OD.still (wants_plain rfl) rfl (still_r1 (mk := fun y => Op.fieldAddr 30 y 0) rfl ot (by first | exact fa_ptr (off := 0) Tryd.runUnderlying30 rfl Tryd.sizeOf3 rfl | exact fa_iptr (off := 0) Tryd.runUnderlying30 rfl Tryd.sizeOf3 rfl)) ?_
        refine OD.still (wants_plain rfl) rfl (still_r1 (mk := Op.load 3) rfl ot (by first | exact ld_blk (k := 0) rfl rfl Tryd.isAgg3 rfl | exact ld_fm cV_len Tryd.isAgg3 (by first | assumption | omega) rfl | exact ld_fm0 cV_len Tryd.isAgg3 (by first | assumption | omega) rfl | exact ld_row (k := 0) cV_len rfl rfl rfl Tryd.isAgg3 (by first | assumption | omega) rfl | exact ld_row0 (k := 0) cV_len rfl rfl rfl Tryd.isAgg3 (by first | assumption | omega) rfl | exact ld_i Tryd.isAgg3 rfl)) ?_
        refine OD.wk (Wk.as_ (n := 72) (l' := [(4, _), (6, _), (13, _), (14, _), (15, _), (31, _)]) (S' := (⟨b6, 30, 3, [_, _, _]⟩ :: [⟨b29, 5, cp29 * 1, List.flatMap cB ((encL (l.take i)) ++ [kb l[i]])⟩])) rfl rfl ⟨lk, lk, lk, lk, lk, lk, trivial⟩) ?_
        refine OD.nil ?_
        refine CD.block ?_
        refine CD.seq ?_
        refine CD.region ?_
        refine OD.still (wants_plain rfl) rfl (still_bin rfl ot opd_const bin_eql) ?_
        refine OD.still (wants_plain rfl) rfl (still_as rfl ot) ?_
        refine OD.wk (Wk.as_ (n := 72) (l' := [(4, _), (6, _), (13, _), (14, _), (15, _), (31, _), (32, _)]) (S' := (⟨b6, 30, 3, [_, _, _]⟩ :: [⟨b29, 5, cp29 * 1, List.flatMap cB ((encL (l.take i)) ++ [kb l[i]])⟩])) rfl rfl ⟨lk, lk, lk, lk, lk, lk, lk, trivial⟩) ?_
        refine OD.nil ?_
        refine CD.cond ot (fun hc3 => ?_) (fun hc3 => ?_)
        · have hc3' := hc3
          (try simp only [decide_eq_true_eq, decide_eq_false_iff_not, beq_iff_eq, bne_iff_ne, Bool.not_eq_true', Bool.not_eq_false', Bool.not_eq_true, Bool.not_eq_false, beq_eq_false_iff_ne, ne_eq, bne_eq_false_iff_eq, Bool.and_eq_true, Bool.or_eq_true, Bool.not_not, Bool.and_eq_false_iff, Bool.or_eq_false_iff, Int.not_lt, Int.not_le] at hc3')
          have hk1 : l[i].k = 1 := by simpa using hc3
          refine CD.region ?_
          refine OD.still (wants_plain rfl) rfl (still_mv rfl ot) ?_
          refine OD.still (wants_plain rfl) rfl (still_r1 (mk := fun y => Op.fieldAddr 30 y 1) rfl ot (by first | exact fa_ptr (off := 1) Tryd.runUnderlying30 rfl Tryd.sizeOf3 rfl | exact fa_iptr (off := 1) Tryd.runUnderlying30 rfl Tryd.sizeOf3 rfl)) ?_
          refine OD.still (wants_plain rfl) rfl (still_r1 (mk := Op.load 3) rfl ot (by first | exact ld_blk (k := 0) rfl rfl Tryd.isAgg3 rfl | exact ld_fm cV_len Tryd.isAgg3 (by first | assumption | omega) rfl | exact ld_fm0 cV_len Tryd.isAgg3 (by first | assumption | omega) rfl | exact ld_row (k := 0) cV_len rfl rfl rfl Tryd.isAgg3 (by first | assumption | omega) rfl | exact ld_row0 (k := 0) cV_len rfl rfl rfl Tryd.isAgg3 (by first | assumption | omega) rfl | exact ld_i Tryd.isAgg3 rfl)) ?_
          refine OD.still (wants_plain rfl) rfl (still_conv (r := .int .u8 ((nb l[i]).toNat : Int)) rfl ot (conv_int Tryd.runUnderlying3 Tryd.runUnderlying5 (nb_wrap hchk hk1))) ?_
          refine OD.bldS (pl := [(0, _)]) (zvs := [.int .u8 0]) (ds := [_]) (wants_plain rfl) rfl rfl Tryd.zeroValue5 Tryd.runUnderlying25 Tryd.sizeOf5 rfl rfl (by kernel_rfl) ⟨rfl, ot, trivial⟩ rfl rfl (fun b38 => ?_)
          refine OD.give (k := 0) (t := 38) (sz := 1) (m := 1) rfl lk rfl rfl rfl (Nat.le_refl _) (by decide) ?_
          refine OD.appendG (ls := ((encL (l.take i)) ++ [kb l[i]])) (new := [nb l[i]]) (Sq := [⟨b29, 5, cp29 * 1, List.flatMap cB ((encL (l.take i)) ++ [kb l[i]])⟩]) cB_len cB_one (wants_plain rfl) rfl rfl Tryd.underlying25 info5_Cd1 rfl (by decide) ot (ownL_row h129 h229) (perm_r11 (A := [_])) ot (by simp) (by have hmx : maxLen = 9223372036854775807 := rfl; (try simp only [List.length_append, List.length_cons, List.length_nil, List.length_take, be_len]); omega) (by have hmx : maxLen = 9223372036854775807 := rfl; (try simp only [List.length_append, List.length_cons, List.length_nil, List.length_take, be_len]); omega) (fun b39 cp39 h139 h239 => ?_)
          refine OD.perm (perm_q11 (S1 := [⟨b39, 5, cp39 * 1, List.flatMap cB (((encL (l.take i)) ++ [kb l[i]]) ++ [nb l[i]])⟩]) (A := [_])) ?_
          refine OD.still (wants_plain rfl) rfl (still_as rfl ot) ?_
          refine OD.wk (Wk.as_ (n := 72) (l' := [(4, _), (13, _), (14, _), (15, _)]) (S' := (⟨b6, 30, 3, [_, _, _]⟩ :: [⟨b39, 5, cp39 * 1, List.flatMap cB (((encL (l.take i)) ++ [kb l[i]]) ++ [nb l[i]])⟩])) rfl rfl ⟨lk, lk, lk, lk, trivial⟩) ?_
          refine OD.nil ?_
          refine CD.region ?_
          refine OD.still (wants_plain rfl) rfl (still_bin rfl ot opd_const (bin_add (wrap_i64 (by omega) (by omega)))) ?_
          refine OD.still (wants_plain rfl) rfl (still_mv rfl ot) ?_
          refine OD.wk (Wk.as_ (n := 72) (l' := [(4, _), (13, _), (14, _), (15, _)]) (S' := (⟨b6, 30, 3, [_, _, _]⟩ :: [⟨b39, 5, cp39 * 1, List.flatMap cB (((encL (l.take i)) ++ [kb l[i]]) ++ [nb l[i]])⟩])) rfl rfl ⟨lk, lk, lk, lk, trivial⟩) ?_
          refine OD.nil ?_
          refine ⟨((i + 1), (some ⟨b39, 0, none⟩), cp39, [⟨b39, 5, cp39 * 1, List.flatMap cB (((encL (l.take i)) ++ [kb l[i]]) ++ [nb l[i]])⟩]), ⟨72, [(4, .v (.slice ((some ⟨b39, 0, none⟩)) (encL (l.take ((i + 1)))).length cp39)), (13, .list 3 (l.flatMap cV) l.length), (14, .v (.int .i64 l.length)), (15, .v (.int .i64 (((i + 1)) : Nat)))], (([⟨b39, 5, cp39 * 1, List.flatMap cB (((encL (l.take i)) ++ [kb l[i]]) ++ [nb l[i]])⟩]))⟩, ?_, Wk.asS (n := 72) rfl (by repeat (first | exact List.Sublist.refl _ | apply List.Sublist.cons_cons | apply List.Sublist.cons)) ⟨(by (repeat (first | exact look_hit | (apply look_at; focus (first | rfl | (simp; done) | (congr 2; omega) | (apply row_eq; rw [← encL_step hlt]; unfold encV; first | (rw [pay_1 (by assumption)]; simp; done) | (rw [pay_2 (by assumption), List.take_of_length_le (l := be8 (uN l[i])) (by rw [be_len]; omega)]; simp; done) | (rw [pay_3 (by assumption), ← esc_repl]; simp; done) | (rw [pay_0 (by assumption) (by assumption) (by assumption)]; done)) | (apply row_eq; rfl) | (apply row_eq; simp; done))) | (apply look_miss; focus rfl))); done), (by (repeat (first | exact look_hit | (apply look_at; focus (first | rfl | (simp; done) | (congr 2; omega) | (apply row_eq; rw [← encL_step hlt]; unfold encV; first | (rw [pay_1 (by assumption)]; simp; done) | (rw [pay_2 (by assumption), List.take_of_length_le (l := be8 (uN l[i])) (by rw [be_len]; omega)]; simp; done) | (rw [pay_3 (by assumption), ← esc_repl]; simp; done) | (rw [pay_0 (by assumption) (by assumption) (by assumption)]; done)) | (apply row_eq; rfl) | (apply row_eq; simp; done))) | (apply look_miss; focus rfl))); done), (by (repeat (first | exact look_hit | (apply look_at; focus (first | rfl | (simp; done) | (congr 2; omega) | (apply row_eq; rw [← encL_step hlt]; unfold encV; first | (rw [pay_1 (by assumption)]; simp; done) | (rw [pay_2 (by assumption), List.take_of_length_le (l := be8 (uN l[i])) (by rw [be_len]; omega)]; simp; done) | (rw [pay_3 (by assumption), ← esc_repl]; simp; done) | (rw [pay_0 (by assumption) (by assumption) (by assumption)]; done)) | (apply row_eq; rfl) | (apply row_eq; simp; done))) | (apply look_miss; focus rfl))); done), (by (repeat (first | exact look_hit | (apply look_at; focus (first | rfl | (simp; done) | (congr 2; omega) | (apply row_eq; rw [← encL_step hlt]; unfold encV; first | (rw [pay_1 (by assumption)]; simp; done) | (rw [pay_2 (by assumption), List.take_of_length_le (l := be8 (uN l[i])) (by rw [be_len]; omega)]; simp; done) | (rw [pay_3 (by assumption), ← esc_repl]; simp; done) | (rw [pay_0 (by assumption) (by assumption) (by assumption)]; done)) | (apply row_eq; rfl) | (apply row_eq; simp; done))) | (apply look_miss; focus rfl))); done), trivial⟩, (by omega), (all_step hlt h0 hchk), (OwnL.cast (ownL_row h139 h239) (by rw [← encL_step hlt]; unfold encV; first | (rw [pay_1 (by assumption)]; simp; done) | (rw [pay_2 (by assumption), List.take_of_length_le (l := be8 (uN l[i])) (by rw [be_len]; omega)]; simp; done) | (rw [pay_3 (by assumption), ← esc_repl]; simp; done) | (rw [pay_0 (by assumption) (by assumption) (by assumption)]; done))), rfl⟩
          first | omega | (simp only []; omega)
        · have hc3' := hc3
          (try simp only [decide_eq_true_eq, decide_eq_false_iff_not, beq_iff_eq, bne_iff_ne, Bool.not_eq_true', Bool.not_eq_false', Bool.not_eq_true, Bool.not_eq_false, beq_eq_false_iff_ne, ne_eq, bne_eq_false_iff_eq, Bool.and_eq_true, Bool.or_eq_true, Bool.not_not, Bool.and_eq_false_iff, Bool.or_eq_false_iff, Int.not_lt, Int.not_le] at hc3')
          have hk1 : ¬ l[i].k = 1 := by simpa using hc3
          refine CD.seq ?_
          refine CD.region ?_
          refine OD.still (wants_plain rfl) rfl (still_bin rfl ot opd_const bin_eql) ?_
          refine OD.still (wants_plain rfl) rfl (still_as rfl ot) ?_
          refine OD.wk (Wk.as_ (n := 72) (l' := [(4, _), (6, _), (13, _), (14, _), (15, _), (31, _), (40, _)]) (S' := (⟨b6, 30, 3, [_, _, _]⟩ :: [⟨b29, 5, cp29 * 1, List.flatMap cB ((encL (l.take i)) ++ [kb l[i]])⟩])) rfl rfl ⟨lk, lk, lk, lk, lk, lk, lk, trivial⟩) ?_
          refine OD.nil ?_
          refine CD.cond ot (fun hc4 => ?_) (fun hc4 => ?_)
          · have hc4' := hc4
            (try simp only [decide_eq_true_eq, decide_eq_false_iff_not, beq_iff_eq, bne_iff_ne, Bool.not_eq_true', Bool.not_eq_false', Bool.not_eq_true, Bool.not_eq_false, beq_eq_false_iff_ne, ne_eq, bne_eq_false_iff_eq, Bool.and_eq_true, Bool.or_eq_true, Bool.not_not, Bool.and_eq_false_iff, Bool.or_eq_false_iff, Int.not_lt, Int.not_le] at hc4')
            have hk2 : l[i].k = 2 := by simpa using hc4
            refine CD.seq ?_
            refine CD.region ?_
            refine OD.still (wants_plain rfl) rfl (still_r1 (mk := fun y => Op.fieldAddr 30 y 1) rfl ot (by first | exact fa_ptr (off := 1) Tryd.runUnderlying30 rfl Tryd.sizeOf3 rfl | exact fa_iptr (off := 1) Tryd.runUnderlying30 rfl Tryd.sizeOf3 rfl)) ?_
            refine OD.still (wants_plain rfl) rfl (still_r1 (mk := Op.load 3) rfl ot (by first | exact ld_blk (k := 0) rfl rfl Tryd.isAgg3 rfl | exact ld_fm cV_len Tryd.isAgg3 (by first | assumption | omega) rfl | exact ld_fm0 cV_len Tryd.isAgg3 (by first | assumption | omega) rfl | exact ld_row (k := 0) cV_len rfl rfl rfl Tryd.isAgg3 (by first | assumption | omega) rfl | exact ld_row0 (k := 0) cV_len rfl rfl rfl Tryd.isAgg3 (by first | assumption | omega) rfl | exact ld_i Tryd.isAgg3 rfl)) ?_
            refine OD.still (wants_plain rfl) rfl (still_conv rfl ot (conv_int Tryd.runUnderlying3 Tryd.runUnderlying68 rfl)) ?_
            refine OD.still (wants_plain rfl) rfl (still_bin (r := .int .u64 ((uN l[i] : Nat) : Int)) rfl ot opd_const (bin_xor (by rw [uN_int hvo]; exact xor_i64 hvo.n1 hvo.n2))) ?_
            refine OD.still (wants_plain rfl) rfl (still_as rfl ot) ?_
            refine OD.wk (Wk.as_ (n := 72) (l' := [(4, _), (8, _), (13, _), (14, _), (15, _)]) (S' := (⟨b6, 30, 3, [_, _, _]⟩ :: [⟨b29, 5, cp29 * 1, List.flatMap cB ((encL (l.take i)) ++ [kb l[i]])⟩])) rfl rfl ⟨lk, lk, lk, lk, lk, trivial⟩) ?_
            refine OD.nil ?_
            refine CD.seq ?_
            refine CD.region ?_
            refine OD.still (wants_plain rfl) rfl (still_as rfl opd_const) ?_
            refine OD.wk (Wk.as_ (n := 72) (l' := [(4, _), (8, _), (9, _), (13, _), (14, _), (15, _)]) (S' := (⟨b6, 30, 3, [_, _, _]⟩ :: [⟨b29, 5, cp29 * 1, List.flatMap cB ((encL (l.take i)) ++ [kb l[i]])⟩])) rfl rfl ⟨lk, lk, lk, lk, lk, lk, trivial⟩) ?_
            refine OD.nil ?_
            refine CD.block ?_
            refine CD.wk (Wk.asS (n := 72) (l' := [(4, .v (.slice ((some ⟨b29, 0, none⟩)) ((encL (l.take i) ++ [kb l[i]]) ++ (be8 (uN l[i])).take (0)).length cp29)), (8, .v (.int .u64 ((uN l[i] : Nat) : Int))), (9, .v (.int .i64 (56 - 8 * ((0) : Int)))), (13, .list 3 (l.flatMap cV) l.length), (14, .v (.int .i64 l.length)), (15, .v (.int .i64 (i : Nat)))]) (S' := (([⟨b29, 5, cp29 * 1, List.flatMap cB ((encL (l.take i)) ++ [kb l[i]])⟩]))) rfl (by repeat (first | exact List.Sublist.refl _ | apply List.Sublist.cons_cons | apply List.Sublist.cons)) ⟨(by (repeat (first | exact look_hit | (apply look_at; focus (first | rfl | (congr 2; omega) | (simp; done) | (apply row_eq; rw [← be_step (by omega)]; simp) | (apply row_eq; simp) | (apply row_eq; simp; done))) | (apply look_miss; focus rfl))); done), (by (repeat (first | exact look_hit | (apply look_at; focus (first | rfl | (congr 2; omega) | (simp; done) | (apply row_eq; rw [← be_step (by omega)]; simp) | (apply row_eq; simp) | (apply row_eq; simp; done))) | (apply look_miss; focus rfl))); done), (by (repeat (first | exact look_hit | (apply look_at; focus (first | rfl | (congr 2; omega) | (simp; done) | (apply row_eq; rw [← be_step (by omega)]; simp) | (apply row_eq; simp) | (apply row_eq; simp; done))) | (apply look_miss; focus rfl))); done), (by (repeat (first | exact look_hit | (apply look_at; focus (first | rfl | (congr 2; omega) | (simp; done) | (apply row_eq; rw [← be_step (by omega)]; simp) | (apply row_eq; simp) | (apply row_eq; simp; done))) | (apply look_miss; focus rfl))); done), (by (repeat (first | exact look_hit | (apply look_at; focus (first | rfl | (congr 2; omega) | (simp; done) | (apply row_eq; rw [← be_step (by omega)]; simp) | (apply row_eq; simp) | (apply row_eq; simp; done))) | (apply look_miss; focus rfl))); done), (by (repeat (first | exact look_hit | (apply look_at; focus (first | rfl | (congr 2; omega) | (simp; done) | (apply row_eq; rw [← be_step (by omega)]; simp) | (apply row_eq; simp) | (apply row_eq; simp; done))) | (apply look_miss; focus rfl))); done), trivial⟩) (CD.loop (fun (gh__ : Nat × Option Addr × Nat × List Blk) y__ => match gh__ with | (k, adb, cpb, Sb) => (k ≤ 8) ∧ (OwnL 5 1 (((encL (l.take i) ++ [kb l[i]]) ++ (be8 (uN l[i])).take k).flatMap cB) ((encL (l.take i) ++ [kb l[i]]) ++ (be8 (uN l[i])).take k).length adb cpb Sb) ∧ y__ = (⟨72, [(4, .v (.slice adb ((encL (l.take i) ++ [kb l[i]]) ++ (be8 (uN l[i])).take k).length cpb)), (8, .v (.int .u64 ((uN l[i] : Nat) : Int))), (9, .v (.int .i64 (56 - 8 * (k : Int)))), (13, .list 3 (l.flatMap cV) l.length), (14, .v (.int .i64 l.length)), (15, .v (.int .i64 (i : Nat)))], (Sb)⟩ : St)) (fun (gh__ : Nat × Option Addr × Nat × List Blk) => match gh__ with | (k, adb, cpb, Sb) => 8 - k) (0, (some ⟨b29, 0, none⟩), cp29, [⟨b29, 5, cp29 * 1, List.flatMap cB ((encL (l.take i)) ++ [kb l[i]])⟩]) ⟨(by decide), (OwnL.cast (ownL_row h129 h229) (by simp)), rfl⟩ ?_)
            rintro ⟨k, adb, cpb, Sb⟩ _ ⟨hk8, hob, rfl⟩
            refine CD.seq ?_
            refine CD.seq ?_
            refine CD.region ?_
            refine OD.still (wants_plain rfl) rfl (still_mv rfl ot) ?_
            refine OD.still (wants_plain rfl) rfl (still_bin rfl ot opd_const bin_geq) ?_
            refine OD.wk (Wk.as_ (n := 72) (l' := [(4, _), (8, _), (9, _), (13, _), (14, _), (15, _), (47, _)]) (S' := (Sb)) rfl rfl ⟨lk, lk, lk, lk, lk, lk, lk, trivial⟩) ?_
            refine OD.nil ?_
            refine CD.cond ot (fun hc5 => ?_) (fun hc5 => ?_)
            · have hc5' := hc5
              (try simp only [decide_eq_true_eq, decide_eq_false_iff_not, beq_iff_eq, bne_iff_ne, Bool.not_eq_true', Bool.not_eq_false', Bool.not_eq_true, Bool.not_eq_false, beq_eq_false_iff_ne, ne_eq, bne_eq_false_iff_eq, Bool.and_eq_true, Bool.or_eq_true, Bool.not_not, Bool.and_eq_false_iff, Bool.or_eq_false_iff, Int.not_lt, Int.not_le] at hc5')
              have hk7 : k ≤ 7 := by omega
              refine CD.skip ?_
              refine CD.seq ?_
              refine CD.block ?_
              refine CD.region ?_
              refine OD.still (wants_plain rfl) rfl (still_mv rfl ot) ?_
              refine OD.still (wants_plain rfl) rfl (still_mv rfl ot) ?_
              refine OD.still (wants_plain rfl) rfl (still_mv rfl ot) ?_
              refine OD.still (wants_plain rfl) rfl (still_bin (r := .int .u64 ((uN l[i] / 256 ^ (7 - k) : Nat) : Int)) rfl ot ot (bin_shr (by omega) (shr_at hk7))) ?_
              refine OD.still (wants_plain rfl) rfl (still_conv (r := .int .u8 ((beAt (uN l[i]) k).toNat : Int)) rfl ot (conv_int Tryd.runUnderlying68 Tryd.runUnderlying5 (u8_wrap _))) ?_
              refine OD.bldS (pl := [(0, _)]) (zvs := [.int .u8 0]) (ds := [_]) (wants_plain rfl) rfl rfl Tryd.zeroValue5 Tryd.runUnderlying25 Tryd.sizeOf5 rfl rfl (by kernel_rfl) ⟨rfl, ot, trivial⟩ rfl rfl (fun b55 => ?_)
              refine OD.give (k := 0) (t := 55) (sz := 1) (m := 1) rfl lk rfl rfl rfl (Nat.le_refl _) (by decide) ?_
              refine OD.appendG (ls := ((encL (l.take i) ++ [kb l[i]]) ++ (be8 (uN l[i])).take k)) (new := [beAt (uN l[i]) k]) (Sq := Sb) cB_len cB_one (wants_plain rfl) rfl rfl Tryd.underlying25 info5_Cd1 rfl (by decide) ot hob (perm_r11 (A := [])) ot (by simp) (by have hmx : maxLen = 9223372036854775807 := rfl; (try simp only [List.length_append, List.length_cons, List.length_nil, List.length_take, be_len]); omega) (by have hmx : maxLen = 9223372036854775807 := rfl; (try simp only [List.length_append, List.length_cons, List.length_nil, List.length_take, be_len]); omega) (fun b56 cp56 h156 h256 => ?_)
              refine OD.perm (perm_q11 (S1 := [⟨b56, 5, cp56 * 1, List.flatMap cB (((encL (l.take i) ++ [kb l[i]]) ++ (be8 (uN l[i])).take k) ++ [beAt (uN l[i]) k])⟩]) (A := [])) ?_
              refine OD.still (wants_plain rfl) rfl (still_as rfl ot) ?_
              refine OD.wk (Wk.as_ (n := 72) (l' := [(4, _), (8, _), (9, _), (13, _), (14, _), (15, _)]) (S' := ([⟨b56, 5, cp56 * 1, List.flatMap cB (((encL (l.take i) ++ [kb l[i]]) ++ (be8 (uN l[i])).take k) ++ [beAt (uN l[i]) k])⟩])) rfl rfl ⟨lk, lk, lk, lk, lk, lk, trivial⟩) ?_
              refine OD.nil ?_
              refine CD.region ?_
              refine OD.still (wants_plain rfl) rfl (still_mv rfl ot) ?_
              refine OD.still (wants_plain rfl) rfl (still_bin rfl ot opd_const (bin_sub (wrap_i64 (by omega) (by omega)))) ?_
              refine OD.still (wants_plain rfl) rfl (still_as rfl ot) ?_
              refine OD.wk (Wk.as_ (n := 72) (l' := [(4, _), (8, _), (9, _), (13, _), (14, _), (15, _)]) (S' := ([⟨b56, 5, cp56 * 1, List.flatMap cB (((encL (l.take i) ++ [kb l[i]]) ++ (be8 (uN l[i])).take k) ++ [beAt (uN l[i]) k])⟩])) rfl rfl ⟨lk, lk, lk, lk, lk, lk, trivial⟩) ?_
              refine OD.nil ?_
              refine ⟨((k + 1), (some ⟨b56, 0, none⟩), cp56, [⟨b56, 5, cp56 * 1, List.flatMap cB (((encL (l.take i) ++ [kb l[i]]) ++ (be8 (uN l[i])).take k) ++ [beAt (uN l[i]) k])⟩]), ⟨72, [(4, .v (.slice ((some ⟨b56, 0, none⟩)) ((encL (l.take i) ++ [kb l[i]]) ++ (be8 (uN l[i])).take ((k + 1))).length cp56)), (8, .v (.int .u64 ((uN l[i] : Nat) : Int))), (9, .v (.int .i64 (56 - 8 * (((k + 1)) : Int)))), (13, .list 3 (l.flatMap cV) l.length), (14, .v (.int .i64 l.length)), (15, .v (.int .i64 (i : Nat)))], (([⟨b56, 5, cp56 * 1, List.flatMap cB (((encL (l.take i) ++ [kb l[i]]) ++ (be8 (uN l[i])).take k) ++ [beAt (uN l[i]) k])⟩]))⟩, ?_, Wk.asS (n := 72) rfl (by repeat (first | exact List.Sublist.refl _ | apply List.Sublist.cons_cons | apply List.Sublist.cons)) ⟨(by (repeat (first | exact look_hit | (apply look_at; focus (first | rfl | (congr 2; omega) | (simp; done) | (apply row_eq; rw [← be_step (by omega)]; simp) | (apply row_eq; simp) | (apply row_eq; simp; done))) | (apply look_miss; focus rfl))); done), (by (repeat (first | exact look_hit | (apply look_at; focus (first | rfl | (congr 2; omega) | (simp; done) | (apply row_eq; rw [← be_step (by omega)]; simp) | (apply row_eq; simp) | (apply row_eq; simp; done))) | (apply look_miss; focus rfl))); done), (by (repeat (first | exact look_hit | (apply look_at; focus (first | rfl | (congr 2; omega) | (simp; done) | (apply row_eq; rw [← be_step (by omega)]; simp) | (apply row_eq; simp) | (apply row_eq; simp; done))) | (apply look_miss; focus rfl))); done), (by (repeat (first | exact look_hit | (apply look_at; focus (first | rfl | (congr 2; omega) | (simp; done) | (apply row_eq; rw [← be_step (by omega)]; simp) | (apply row_eq; simp) | (apply row_eq; simp; done))) | (apply look_miss; focus rfl))); done), (by (repeat (first | exact look_hit | (apply look_at; focus (first | rfl | (congr 2; omega) | (simp; done) | (apply row_eq; rw [← be_step (by omega)]; simp) | (apply row_eq; simp) | (apply row_eq; simp; done))) | (apply look_miss; focus rfl))); done), (by (repeat (first | exact look_hit | (apply look_at; focus (first | rfl | (congr 2; omega) | (simp; done) | (apply row_eq; rw [← be_step (by omega)]; simp) | (apply row_eq; simp) | (apply row_eq; simp; done))) | (apply look_miss; focus rfl))); done), trivial⟩, (by omega), (OwnL.cast (ownL_row h156 h256) (by rw [← be_step (by omega)]; simp)), rfl⟩
              first | omega | (simp only []; omega)
            · have hc5' := hc5
              (try simp only [decide_eq_true_eq, decide_eq_false_iff_not, beq_iff_eq, bne_iff_ne, Bool.not_eq_true', Bool.not_eq_false', Bool.not_eq_true, Bool.not_eq_false, beq_eq_false_iff_ne, ne_eq, bne_eq_false_iff_eq, Bool.and_eq_true, Bool.or_eq_true, Bool.not_not, Bool.and_eq_false_iff, Bool.or_eq_false_iff, Int.not_lt, Int.not_le] at hc5')
              have hk88 : k = 8 := by omega
              have hk8n : 8 ≤ k := by omega
              refine CD.exit ?_
              refine CD.region ?_
              refine OD.still (wants_plain rfl) rfl (still_bin rfl ot opd_const (bin_add (wrap_i64 (by omega) (by omega)))) ?_
              refine OD.still (wants_plain rfl) rfl (still_mv rfl ot) ?_
              refine OD.wk (Wk.as_ (n := 72) (l' := [(4, _), (13, _), (14, _), (15, _)]) (S' := (Sb)) rfl rfl ⟨lk, lk, lk, lk, trivial⟩) ?_
              refine OD.nil ?_
              refine ⟨((i + 1), adb, cpb, Sb), ⟨72, [(4, .v (.slice adb (encL (l.take ((i + 1)))).length cpb)), (13, .list 3 (l.flatMap cV) l.length), (14, .v (.int .i64 l.length)), (15, .v (.int .i64 (((i + 1)) : Nat)))], (Sb)⟩, ?_, Wk.asS (n := 72) rfl (by repeat (first | exact List.Sublist.refl _ | apply List.Sublist.cons_cons | apply List.Sublist.cons)) ⟨(by (repeat (first | exact look_hit | (apply look_at; focus (first | rfl | (simp; done) | (congr 2; omega) | (apply row_eq; rw [← encL_step hlt]; unfold encV; first | (rw [pay_1 (by assumption)]; simp; done) | (rw [pay_2 (by assumption), List.take_of_length_le (l := be8 (uN l[i])) (by rw [be_len]; omega)]; simp; done) | (rw [pay_3 (by assumption), ← esc_repl]; simp; done) | (rw [pay_0 (by assumption) (by assumption) (by assumption)]; done)) | (apply row_eq; rfl) | (apply row_eq; simp; done))) | (apply look_miss; focus rfl))); done), (by (repeat (first | exact look_hit | (apply look_at; focus (first | rfl | (simp; done) | (congr 2; omega) | (apply row_eq; rw [← encL_step hlt]; unfold encV; first | (rw [pay_1 (by assumption)]; simp; done) | (rw [pay_2 (by assumption), List.take_of_length_le (l := be8 (uN l[i])) (by rw [be_len]; omega)]; simp; done) | (rw [pay_3 (by assumption), ← esc_repl]; simp; done) | (rw [pay_0 (by assumption) (by assumption) (by assumption)]; done)) | (apply row_eq; rfl) | (apply row_eq; simp; done))) | (apply look_miss; focus rfl))); done), (by (repeat (first | exact look_hit | (apply look_at; focus (first | rfl | (simp; done) | (congr 2; omega) | (apply row_eq; rw [← encL_step hlt]; unfold encV; first | (rw [pay_1 (by assumption)]; simp; done) | (rw [pay_2 (by assumption), List.take_of_length_le (l := be8 (uN l[i])) (by rw [be_len]; omega)]; simp; done) | (rw [pay_3 (by assumption), ← esc_repl]; simp; done) | (rw [pay_0 (by assumption) (by assumption) (by assumption)]; done)) | (apply row_eq; rfl) | (apply row_eq; simp; done))) | (apply look_miss; focus rfl))); done), (by (repeat (first | exact look_hit | (apply look_at; focus (first | rfl | (simp; done) | (congr 2; omega) | (apply row_eq; rw [← encL_step hlt]; unfold encV; first | (rw [pay_1 (by assumption)]; simp; done) | (rw [pay_2 (by assumption), List.take_of_length_le (l := be8 (uN l[i])) (by rw [be_len]; omega)]; simp; done) | (rw [pay_3 (by assumption), ← esc_repl]; simp; done) | (rw [pay_0 (by assumption) (by assumption) (by assumption)]; done)) | (apply row_eq; rfl) | (apply row_eq; simp; done))) | (apply look_miss; focus rfl))); done), trivial⟩, (by omega), (all_step hlt h0 hchk), (OwnL.cast hob (by rw [← encL_step hlt]; unfold encV; first | (rw [pay_1 (by assumption)]; simp; done) | (rw [pay_2 (by assumption), List.take_of_length_le (l := be8 (uN l[i])) (by rw [be_len]; omega)]; simp; done) | (rw [pay_3 (by assumption), ← esc_repl]; simp; done) | (rw [pay_0 (by assumption) (by assumption) (by assumption)]; done))), rfl⟩
              first | omega | (simp only []; omega)
          · have hc4' := hc4
            (try simp only [decide_eq_true_eq, decide_eq_false_iff_not, beq_iff_eq, bne_iff_ne, Bool.not_eq_true', Bool.not_eq_false', Bool.not_eq_true, Bool.not_eq_false, beq_eq_false_iff_ne, ne_eq, bne_eq_false_iff_eq, Bool.and_eq_true, Bool.or_eq_true, Bool.not_not, Bool.and_eq_false_iff, Bool.or_eq_false_iff, Int.not_lt, Int.not_le] at hc4')
            have hk2 : ¬ l[i].k = 2 := by simpa using hc4
            refine CD.seq ?_
            refine CD.region ?_
            refine OD.still (wants_plain rfl) rfl (still_bin rfl ot opd_const bin_eql) ?_
            refine OD.still (wants_plain rfl) rfl (still_as rfl ot) ?_
            refine OD.wk (Wk.as_ (n := 72) (l' := [(4, _), (6, _), (13, _), (14, _), (15, _), (57, _)]) (S' := (⟨b6, 30, 3, [_, _, _]⟩ :: [⟨b29, 5, cp29 * 1, List.flatMap cB ((encL (l.take i)) ++ [kb l[i]])⟩])) rfl rfl ⟨lk, lk, lk, lk, lk, lk, trivial⟩) ?_
            refine OD.nil ?_
            refine CD.cond ot (fun hc6 => ?_) (fun hc6 => ?_)
            · have hc6' := hc6
              (try simp only [decide_eq_true_eq, decide_eq_false_iff_not, beq_iff_eq, bne_iff_ne, Bool.not_eq_true', Bool.not_eq_false', Bool.not_eq_true, Bool.not_eq_false, beq_eq_false_iff_ne, ne_eq, bne_eq_false_iff_eq, Bool.and_eq_true, Bool.or_eq_true, Bool.not_not, Bool.and_eq_false_iff, Bool.or_eq_false_iff, Int.not_lt, Int.not_le] at hc6')
              have hk3 : l[i].k = 3 := by simpa using hc6
              have hts := check_text hchk hk3
              have hel := esc_len l[i].s.data.toList
              rw [str_len] at hel
              have hrs : (replS 0 [0, 255] l[i].s).size = (escL l[i].s.data.toList).length := by rw [← str_len, esc_repl]
              refine CD.seq ?_
              refine CD.region ?_
              refine OD.still (wants_plain rfl) rfl (still_mv rfl ot) ?_
              refine OD.still (wants_plain rfl) rfl (still_r1 (mk := fun y => Op.fieldAddr 30 y 2) rfl ot (by first | exact fa_ptr (off := 2) Tryd.runUnderlying30 rfl Tryd.sizeOf9 rfl | exact fa_iptr (off := 2) Tryd.runUnderlying30 rfl Tryd.sizeOf9 rfl)) ?_
              refine OD.still (wants_plain rfl) rfl (still_r1 (mk := Op.load 9) rfl ot (by first | exact ld_blk (k := 0) rfl rfl Tryd.isAgg9 rfl | exact ld_fm cV_len Tryd.isAgg9 (by first | assumption | omega) rfl | exact ld_fm0 cV_len Tryd.isAgg9 (by first | assumption | omega) rfl | exact ld_row (k := 0) cV_len rfl rfl rfl Tryd.isAgg9 (by first | assumption | omega) rfl | exact ld_row0 (k := 0) cV_len rfl rfl rfl Tryd.isAgg9 (by first | assumption | omega) rfl | exact ld_i Tryd.isAgg9 rfl)) ?_
              refine OD.callP (wants_plain rfl) rfl rfl rfl Tryd.call30 (repl_vp hG 0 ⟨#[0, 255]⟩ l[i].s (by omega) (by decide)) ⟨ot, opd_const, opd_const, trivial⟩ ?_
              refine OD.appendStrB (ls := ((encL (l.take i)) ++ [kb l[i]])) (Sq := [⟨b29, 5, cp29 * 1, List.flatMap cB ((encL (l.take i)) ++ [kb l[i]])⟩]) (wants_plain rfl) rfl rfl Tryd.underlying25 Tryd.underlying9 info5_Cd1 ot (ownL_row h129 h229) (perm_r11 (A := [_])) ot (by rw [show (replS 0 (⟨#[0, 255]⟩ : ByteArray).data.toList l[i].s).size = (escL l[i].s.data.toList).length from hrs]; simp only [List.length_append, List.length_cons, List.length_nil]; omega) (by rw [show (replS 0 (⟨#[0, 255]⟩ : ByteArray).data.toList l[i].s).size = (escL l[i].s.data.toList).length from hrs]; simp only [List.length_append, List.length_cons, List.length_nil]; omega) (fun ad63 cp63 S63 ho63 => ?_)
              refine OD.perm (perm_q11 (A := [_])) ?_
              refine OD.still (wants_plain rfl) rfl (still_as rfl ot) ?_
              refine OD.wk (Wk.as_ (n := 72) (l' := [(4, _), (13, _), (14, _), (15, _)]) (S' := (⟨b6, 30, 3, [_, _, _]⟩ :: S63)) rfl rfl ⟨lk, lk, lk, lk, trivial⟩) ?_
              refine OD.nil ?_
              refine CD.region ?_
              refine OD.still (wants_plain rfl) rfl (still_mv rfl ot) ?_
              refine OD.bldS (pl := [(0, _), (1, _)]) (zvs := [.int .u8 0, .int .u8 0]) (ds := [_, _]) (wants_plain rfl) rfl rfl Tryd.zeroValue5 Tryd.runUnderlying25 Tryd.sizeOf5 rfl rfl (by kernel_rfl) ⟨rfl, opd_const, rfl, opd_const, trivial⟩ rfl rfl (fun b65 => ?_)
              refine OD.give (k := 0) (t := 65) (sz := 1) (m := 2) rfl lk rfl rfl rfl (Nat.le_refl _) (by decide) ?_
              refine OD.appendG (ls := (((encL (l.take i)) ++ [kb l[i]]) ++ (replS 0 [0, 255] l[i].s).data.toList)) (new := [(0 : UInt8), 0]) (Sq := S63) cB_len cB_one (wants_plain rfl) rfl rfl Tryd.underlying25 info5_Cd1 rfl (by decide) ot ho63 (perm_r11 (A := [_])) ot (by simp) (by rw [esc_repl]; simp only [List.length_append, List.length_cons, List.length_nil]; omega) (by rw [esc_repl]; simp only [List.length_append, List.length_cons, List.length_nil]; omega) (fun b66 cp66 h166 h266 => ?_)
              refine OD.perm (perm_q11 (S1 := [⟨b66, 5, cp66 * 1, List.flatMap cB ((((encL (l.take i)) ++ [kb l[i]]) ++ (replS 0 [0, 255] l[i].s).data.toList) ++ [(0 : UInt8), 0])⟩]) (A := [_])) ?_
              refine OD.still (wants_plain rfl) rfl (still_as rfl ot) ?_
              refine OD.wk (Wk.as_ (n := 72) (l' := [(4, _), (13, _), (14, _), (15, _)]) (S' := (⟨b6, 30, 3, [_, _, _]⟩ :: [⟨b66, 5, cp66 * 1, List.flatMap cB ((((encL (l.take i)) ++ [kb l[i]]) ++ (replS 0 [0, 255] l[i].s).data.toList) ++ [(0 : UInt8), 0])⟩])) rfl rfl ⟨lk, lk, lk, lk, trivial⟩) ?_
              refine OD.nil ?_
              refine CD.region ?_
              refine OD.still (wants_plain rfl) rfl (still_bin rfl ot opd_const (bin_add (wrap_i64 (by omega) (by omega)))) ?_
              refine OD.still (wants_plain rfl) rfl (still_mv rfl ot) ?_
              refine OD.wk (Wk.as_ (n := 72) (l' := [(4, _), (13, _), (14, _), (15, _)]) (S' := (⟨b6, 30, 3, [_, _, _]⟩ :: [⟨b66, 5, cp66 * 1, List.flatMap cB ((((encL (l.take i)) ++ [kb l[i]]) ++ (replS 0 [0, 255] l[i].s).data.toList) ++ [(0 : UInt8), 0])⟩])) rfl rfl ⟨lk, lk, lk, lk, trivial⟩) ?_
              refine OD.nil ?_
              refine ⟨((i + 1), (some ⟨b66, 0, none⟩), cp66, [⟨b66, 5, cp66 * 1, List.flatMap cB ((((encL (l.take i)) ++ [kb l[i]]) ++ (replS 0 [0, 255] l[i].s).data.toList) ++ [(0 : UInt8), 0])⟩]), ⟨72, [(4, .v (.slice ((some ⟨b66, 0, none⟩)) (encL (l.take ((i + 1)))).length cp66)), (13, .list 3 (l.flatMap cV) l.length), (14, .v (.int .i64 l.length)), (15, .v (.int .i64 (((i + 1)) : Nat)))], (([⟨b66, 5, cp66 * 1, List.flatMap cB ((((encL (l.take i)) ++ [kb l[i]]) ++ (replS 0 [0, 255] l[i].s).data.toList) ++ [(0 : UInt8), 0])⟩]))⟩, ?_, Wk.asS (n := 72) rfl (by repeat (first | exact List.Sublist.refl _ | apply List.Sublist.cons_cons | apply List.Sublist.cons)) ⟨(by (repeat (first | exact look_hit | (apply look_at; focus (first | rfl | (simp; done) | (congr 2; omega) | (apply row_eq; rw [← encL_step hlt]; unfold encV; first | (rw [pay_1 (by assumption)]; simp; done) | (rw [pay_2 (by assumption), List.take_of_length_le (l := be8 (uN l[i])) (by rw [be_len]; omega)]; simp; done) | (rw [pay_3 (by assumption), ← esc_repl]; simp; done) | (rw [pay_0 (by assumption) (by assumption) (by assumption)]; done)) | (apply row_eq; rfl) | (apply row_eq; simp; done))) | (apply look_miss; focus rfl))); done), (by (repeat (first | exact look_hit | (apply look_at; focus (first | rfl | (simp; done) | (congr 2; omega) | (apply row_eq; rw [← encL_step hlt]; unfold encV; first | (rw [pay_1 (by assumption)]; simp; done) | (rw [pay_2 (by assumption), List.take_of_length_le (l := be8 (uN l[i])) (by rw [be_len]; omega)]; simp; done) | (rw [pay_3 (by assumption), ← esc_repl]; simp; done) | (rw [pay_0 (by assumption) (by assumption) (by assumption)]; done)) | (apply row_eq; rfl) | (apply row_eq; simp; done))) | (apply look_miss; focus rfl))); done), (by (repeat (first | exact look_hit | (apply look_at; focus (first | rfl | (simp; done) | (congr 2; omega) | (apply row_eq; rw [← encL_step hlt]; unfold encV; first | (rw [pay_1 (by assumption)]; simp; done) | (rw [pay_2 (by assumption), List.take_of_length_le (l := be8 (uN l[i])) (by rw [be_len]; omega)]; simp; done) | (rw [pay_3 (by assumption), ← esc_repl]; simp; done) | (rw [pay_0 (by assumption) (by assumption) (by assumption)]; done)) | (apply row_eq; rfl) | (apply row_eq; simp; done))) | (apply look_miss; focus rfl))); done), (by (repeat (first | exact look_hit | (apply look_at; focus (first | rfl | (simp; done) | (congr 2; omega) | (apply row_eq; rw [← encL_step hlt]; unfold encV; first | (rw [pay_1 (by assumption)]; simp; done) | (rw [pay_2 (by assumption), List.take_of_length_le (l := be8 (uN l[i])) (by rw [be_len]; omega)]; simp; done) | (rw [pay_3 (by assumption), ← esc_repl]; simp; done) | (rw [pay_0 (by assumption) (by assumption) (by assumption)]; done)) | (apply row_eq; rfl) | (apply row_eq; simp; done))) | (apply look_miss; focus rfl))); done), trivial⟩, (by omega), (all_step hlt h0 hchk), (OwnL.cast (ownL_row h166 h266) (by rw [← encL_step hlt]; unfold encV; first | (rw [pay_1 (by assumption)]; simp; done) | (rw [pay_2 (by assumption), List.take_of_length_le (l := be8 (uN l[i])) (by rw [be_len]; omega)]; simp; done) | (rw [pay_3 (by assumption), ← esc_repl]; simp; done) | (rw [pay_0 (by assumption) (by assumption) (by assumption)]; done))), rfl⟩
              first | omega | (simp only []; omega)
            · have hc6' := hc6
              (try simp only [decide_eq_true_eq, decide_eq_false_iff_not, beq_iff_eq, bne_iff_ne, Bool.not_eq_true', Bool.not_eq_false', Bool.not_eq_true, Bool.not_eq_false, beq_eq_false_iff_ne, ne_eq, bne_eq_false_iff_eq, Bool.and_eq_true, Bool.or_eq_true, Bool.not_not, Bool.and_eq_false_iff, Bool.or_eq_false_iff, Int.not_lt, Int.not_le] at hc6')
              have hk3 : ¬ l[i].k = 3 := by simpa using hc6
              refine CD.skip ?_
              refine CD.region ?_
              refine OD.still (wants_plain rfl) rfl (still_bin rfl ot opd_const (bin_add (wrap_i64 (by omega) (by omega)))) ?_
              refine OD.still (wants_plain rfl) rfl (still_mv rfl ot) ?_
              refine OD.wk (Wk.as_ (n := 72) (l' := [(4, _), (13, _), (14, _), (15, _)]) (S' := (⟨b6, 30, 3, [_, _, _]⟩ :: [⟨b29, 5, cp29 * 1, List.flatMap cB ((encL (l.take i)) ++ [kb l[i]])⟩])) rfl rfl ⟨lk, lk, lk, lk, trivial⟩) ?_
              refine OD.nil ?_
              refine ⟨((i + 1), (some ⟨b29, 0, none⟩), cp29, [⟨b29, 5, cp29 * 1, List.flatMap cB ((encL (l.take i)) ++ [kb l[i]])⟩]), ⟨72, [(4, .v (.slice ((some ⟨b29, 0, none⟩)) (encL (l.take ((i + 1)))).length cp29)), (13, .list 3 (l.flatMap cV) l.length), (14, .v (.int .i64 l.length)), (15, .v (.int .i64 (((i + 1)) : Nat)))], (([⟨b29, 5, cp29 * 1, List.flatMap cB ((encL (l.take i)) ++ [kb l[i]])⟩]))⟩, ?_, Wk.asS (n := 72) rfl (by repeat (first | exact List.Sublist.refl _ | apply List.Sublist.cons_cons | apply List.Sublist.cons)) ⟨(by (repeat (first | exact look_hit | (apply look_at; focus (first | rfl | (simp; done) | (congr 2; omega) | (apply row_eq; rw [← encL_step hlt]; unfold encV; first | (rw [pay_1 (by assumption)]; simp; done) | (rw [pay_2 (by assumption), List.take_of_length_le (l := be8 (uN l[i])) (by rw [be_len]; omega)]; simp; done) | (rw [pay_3 (by assumption), ← esc_repl]; simp; done) | (rw [pay_0 (by assumption) (by assumption) (by assumption)]; done)) | (apply row_eq; rfl) | (apply row_eq; simp; done))) | (apply look_miss; focus rfl))); done), (by (repeat (first | exact look_hit | (apply look_at; focus (first | rfl | (simp; done) | (congr 2; omega) | (apply row_eq; rw [← encL_step hlt]; unfold encV; first | (rw [pay_1 (by assumption)]; simp; done) | (rw [pay_2 (by assumption), List.take_of_length_le (l := be8 (uN l[i])) (by rw [be_len]; omega)]; simp; done) | (rw [pay_3 (by assumption), ← esc_repl]; simp; done) | (rw [pay_0 (by assumption) (by assumption) (by assumption)]; done)) | (apply row_eq; rfl) | (apply row_eq; simp; done))) | (apply look_miss; focus rfl))); done), (by (repeat (first | exact look_hit | (apply look_at; focus (first | rfl | (simp; done) | (congr 2; omega) | (apply row_eq; rw [← encL_step hlt]; unfold encV; first | (rw [pay_1 (by assumption)]; simp; done) | (rw [pay_2 (by assumption), List.take_of_length_le (l := be8 (uN l[i])) (by rw [be_len]; omega)]; simp; done) | (rw [pay_3 (by assumption), ← esc_repl]; simp; done) | (rw [pay_0 (by assumption) (by assumption) (by assumption)]; done)) | (apply row_eq; rfl) | (apply row_eq; simp; done))) | (apply look_miss; focus rfl))); done), (by (repeat (first | exact look_hit | (apply look_at; focus (first | rfl | (simp; done) | (congr 2; omega) | (apply row_eq; rw [← encL_step hlt]; unfold encV; first | (rw [pay_1 (by assumption)]; simp; done) | (rw [pay_2 (by assumption), List.take_of_length_le (l := be8 (uN l[i])) (by rw [be_len]; omega)]; simp; done) | (rw [pay_3 (by assumption), ← esc_repl]; simp; done) | (rw [pay_0 (by assumption) (by assumption) (by assumption)]; done)) | (apply row_eq; rfl) | (apply row_eq; simp; done))) | (apply look_miss; focus rfl))); done), trivial⟩, (by omega), (all_step hlt h0 hchk), (OwnL.cast (ownL_row h129 h229) (by rw [← encL_step hlt]; unfold encV; first | (rw [pay_1 (by assumption)]; simp; done) | (rw [pay_2 (by assumption), List.take_of_length_le (l := be8 (uN l[i])) (by rw [be_len]; omega)]; simp; done) | (rw [pay_3 (by assumption), ← esc_repl]; simp; done) | (rw [pay_0 (by assumption) (by assumption) (by assumption)]; done))), rfl⟩
              first | omega | (simp only []; omega)
    · have hc1' := hc1
      (try simp only [decide_eq_true_eq, decide_eq_false_iff_not, beq_iff_eq, bne_iff_ne, Bool.not_eq_true', Bool.not_eq_false', Bool.not_eq_true, Bool.not_eq_false, beq_eq_false_iff_ne, ne_eq, bne_eq_false_iff_eq, Bool.and_eq_true, Bool.or_eq_true, Bool.not_not, Bool.and_eq_false_iff, Bool.or_eq_false_iff, Int.not_lt, Int.not_le] at hc1')
      have hall : ∀ v ∈ l, checkV v = 0 := by rw [List.take_of_length_le (by omega)] at h0; exact h0
      have hle := encL_len hall
      have htk : encL (l.take i) = encL l := by rw [List.take_of_length_le (by omega)]
      refine CD.exit ?_
      refine CD.seq ?_
      refine CD.seq ?_
      refine CD.region ?_
      refine OD.still (wants_plain rfl) rfl (still_mv rfl ot) ?_
      refine OD.still (wants_plain rfl) rfl (still_r1 (mk := fun y => .call { callee := .builtin .len, args := #[y], argTypes := #[25] }) rfl ot (by first | exact len_list rfl Tryd.runUnderlying25 | exact len_row rfl Tryd.runUnderlying25)) ?_
      refine OD.still (wants_plain rfl) rfl (still_bin rfl ot opd_const bin_gtr) ?_
      refine OD.wk (Wk.as_ (n := 72) (l' := [(4, _), (70, _)]) (S' := (Sb)) rfl rfl ⟨lk, lk, trivial⟩) ?_
      refine OD.nil ?_
      refine CD.cond ot (fun hc7 => ?_) (fun hc7 => ?_)
      · have hc7' := hc7
        (try simp only [decide_eq_true_eq, decide_eq_false_iff_not, beq_iff_eq, bne_iff_ne, Bool.not_eq_true', Bool.not_eq_false', Bool.not_eq_true, Bool.not_eq_false, beq_eq_false_iff_ne, ne_eq, bne_eq_false_iff_eq, Bool.and_eq_true, Bool.or_eq_true, Bool.not_not, Bool.and_eq_false_iff, Bool.or_eq_false_iff, Int.not_lt, Int.not_le] at hc7')
        have hres : encR l = ([], 5) := by unfold encR; rw [if_neg (by omega), errV_ok hall, if_neg (by simp), if_pos (by rw [htk] at hc7; simp at hc7; omega)]
        refine CD.seq ?_
        refine CD.region ?_
        refine OD.still (wants_plain rfl) rfl (still_as rfl opd_const) ?_
        refine OD.still (wants_plain rfl) rfl (still_as rfl opd_const) ?_
        refine OD.wk (Wk.as_ (n := 72) (l' := [(2, _), (3, _)]) (S' := (Sb)) rfl rfl ⟨lk, lk, trivial⟩) ?_
        refine OD.nil ?_
        refine CD.wk (Wk.giveNil (t := 2) (sz := 1) lk) ?_
        refine CD.ret ?_
        refine ⟨.inr rfl, _, [], List.nil_sublist _, ret_two Tryd.results14 (res_tmp (Nat.le_of_ble_eq_true rfl) lk) (res_tmp (Nat.le_of_ble_eq_true rfl) lk), ?_⟩
        first | (rw [hres]; exact ⟨rfl, rfl⟩) | (rw [hres, ← htk]; exact ⟨rfl, rfl⟩)
      · have hc7' := hc7
        (try simp only [decide_eq_true_eq, decide_eq_false_iff_not, beq_iff_eq, bne_iff_ne, Bool.not_eq_true', Bool.not_eq_false', Bool.not_eq_true, Bool.not_eq_false, beq_eq_false_iff_ne, ne_eq, bne_eq_false_iff_eq, Bool.and_eq_true, Bool.or_eq_true, Bool.not_not, Bool.and_eq_false_iff, Bool.or_eq_false_iff, Int.not_lt, Int.not_le] at hc7')
        have hres : encR l = (encL l, 0) := by unfold encR; rw [if_neg (by omega), errV_ok hall, if_neg (by simp), if_neg (by rw [htk] at hc7; simp at hc7; omega)]
        refine CD.skip ?_
        refine CD.seq ?_
        refine CD.region ?_
        refine OD.still (wants_plain rfl) rfl (still_mv rfl ot) ?_
        refine OD.still (wants_plain rfl) rfl (still_as rfl ot) ?_
        refine OD.still (wants_plain rfl) rfl (still_as rfl opd_const) ?_
        refine OD.wk (Wk.as_ (n := 72) (l' := [(2, _), (3, _)]) (S' := (Sb)) rfl rfl ⟨lk, lk, trivial⟩) ?_
        refine OD.nil ?_
        refine CD.giveL (t := 2) (Sq := Sb) lk hob (fm_len cB_len _) (perm_r11 (A := [])) ?_
        refine CD.ret ?_
        refine ⟨.inr rfl, _, [], List.nil_sublist _, ret_two Tryd.results14 (res_tmp (Nat.le_of_ble_eq_true rfl) lk) (res_tmp (Nat.le_of_ble_eq_true rfl) lk), ?_⟩
        first | (rw [hres]; exact ⟨rfl, rfl⟩) | (rw [hres, ← htk]; exact ⟨rfl, rfl⟩)

end Go.Proofs.YtoemmoeedhllfaaDoor.Cd

namespace Go.Proofs.YtoemmoeedhllfaaDoor.Cd
open Go.RowKit V Pk Vl
set_option linter.unusedVariables false
set_option linter.unusedSimpArgs false

def textL : List UInt8 → Option (List UInt8 × List UInt8)
  | [] => none
  | [_] => none
  | a :: b :: r => if a = 0 then (if b = 0 then some ([], r) else if b = 255 then (textL r).map fun p => (0 :: p.1, p.2) else none) else (textL (b :: r)).map fun p => (a :: p.1, p.2)
def textA (acc l : List UInt8) : Option (List UInt8 × List UInt8) := (textL l).map fun p => (acc ++ p.1, p.2)
theorem textA_nil (l : List UInt8) : textA [] l = textL l := by unfold textA; cases textL l <;> simp
theorem textA_app {acc : List UInt8} {a : UInt8} {l : List UInt8} : (textL l).map (fun p => (acc ++ (a :: p.1), p.2)) = textA (acc ++ [a]) l := by
  unfold textA
  cases textL l <;> simp
theorem drop2 {b : List UInt8} {i : Nat} (h : i + 1 < b.length) : b.drop i = b[i] :: b[i + 1] :: b.drop (i + 2) := by
  rw [List.drop_eq_getElem_cons (by omega), List.drop_eq_getElem_cons h]
theorem textA_lit {acc b : List UInt8} {i : Nat} (h : i + 1 < b.length) (h0 : ¬ b[i] = 0) : textA acc (b.drop i) = textA (acc ++ [b[i]]) (b.drop (i + 1)) := by
  rw [← textA_app]
  unfold textA
  rw [drop2 h, textL, if_neg h0, List.drop_eq_getElem_cons h]
  cases textL (b[i + 1] :: b.drop (i + 1 + 1)) <;> simp
theorem textA_end {acc b : List UInt8} {i : Nat} (h : i + 1 < b.length) (h0 : b[i] = 0) (h1 : b[i + 1] = 0) : textA acc (b.drop i) = some (acc, b.drop (i + 2)) := by
  unfold textA
  rw [drop2 h, textL, if_pos h0, if_pos h1]; simp
theorem textA_esc {acc b : List UInt8} {i : Nat} (h : i + 1 < b.length) (h0 : b[i] = 0) (h1 : ¬ b[i + 1] = 0) (h2 : b[i + 1] = 255) : textA acc (b.drop i) = textA (acc ++ [0]) (b.drop (i + 2)) := by
  rw [← textA_app]
  unfold textA
  rw [drop2 h, textL, if_pos h0, if_neg h1, if_pos h2]
  cases textL (b.drop (i + 2)) <;> simp
theorem textA_bad {acc b : List UInt8} {i : Nat} (h : i + 1 < b.length) (h0 : b[i] = 0) (h1 : ¬ b[i + 1] = 0) (h2 : ¬ b[i + 1] = 255) : textA acc (b.drop i) = none := by
  unfold textA
  rw [drop2 h, textL, if_pos h0, if_neg h1, if_neg h2]; rfl
theorem textA_short {acc b : List UInt8} {i : Nat} (h : b.length ≤ i + 1) : textA acc (b.drop i) = none := by
  unfold textA
  have : (b.drop i).length ≤ 1 := by rw [List.length_drop]; omega
  cases hd : b.drop i with
  | nil => rfl
  | cons x r =>
    rw [hd] at this
    have : r = [] := List.eq_nil_of_length_eq_zero (by simpa using this)
    subst this; rfl
def textR (b : List UInt8) : ByteArray × List UInt8 × Bool := match textL b with | some p => (⟨p.1.toArray⟩, p.2, true) | none => (⟨#[]⟩, [], false)
def textD (r : ByteArray × List UInt8 × Bool) : D := .tup [.v (.string r.1), bytesL r.2.1, .v (.bool r.2.2)]

def unbe (l : List UInt8) : Nat := l.foldl (fun a c => a * 256 + c.toNat) 0
theorem unbe_snoc (l : List UInt8) (c : UInt8) : unbe (l ++ [c]) = unbe l * 256 + c.toNat := by unfold unbe; rw [List.foldl_append]; rfl
theorem unbe_lt : ∀ (n : Nat) (l : List UInt8), l.length = n → unbe l < 256 ^ n
  | 0, l, h => by rw [List.eq_nil_of_length_eq_zero h]; decide
  | n + 1, l, h => by
    have hne : l ≠ [] := by intro e; subst e; simp at h
    rw [← List.dropLast_concat_getLast hne, unbe_snoc]
    have h1 := unbe_lt n l.dropLast (by rw [List.length_dropLast, h]; rfl)
    have h2 : (l.getLast hne).toNat < 256 := (l.getLast hne).toNat_lt
    rw [Nat.pow_succ]
    omega
def needF (k : UInt8) : Nat := if k = 0 then 0 else if k = 1 then 1 else if k = 2 then 8 else 2
def bv (k : UInt8) (n : Int) (s : ByteArray) : Vl := ⟨(k.toNat : Int), n, s⟩
/-- What one answers of a key's byte and what stands behind it. -/
def oneR (k : UInt8) (r : List UInt8) : Vl × List UInt8 × Int :=
  if k.toNat > 3 then (bv k 0 ⟨#[]⟩, [], 2)
  else if r.length < needF k then (bv k 0 ⟨#[]⟩, [], 7)
  else if k = 1 then (if (r.headD 0).toNat > 1 then (bv k (r.headD 0).toNat ⟨#[]⟩, [], 6) else (bv k (r.headD 0).toNat ⟨#[]⟩, r.drop 1, 0))
  else if k = 2 then (bv k ((unbe (r.take 8) : Int) - 9223372036854775808) ⟨#[]⟩, r.drop 8, 0)
  else if k = 3 then (match textL r with | none => (bv k 0 ⟨#[]⟩, [], 6) | some p => if p.1.length > 20 then (bv k 0 ⟨#[]⟩, [], 1) else (bv k 0 ⟨p.1.toArray⟩, p.2, 0))
  else (bv k 0 ⟨#[]⟩, r, 0)
def oneD (x : Vl × List UInt8 × Int) : D := .tup [.agg (cV x.1), bytesL x.2.1, .v (.int .i64 x.2.2)]
def decA : Nat → List Vl → List UInt8 → List Vl × Int
  | 0, acc, b => (acc, 0)
  | f + 1, acc, [] => (acc, 0)
  | f + 1, acc, k :: r => if acc.length = 6 then ([], 1) else if (oneR k r).2.2 ≠ 0 then ([], (oneR k r).2.2) else decA f (acc ++ [(oneR k r).1]) (oneR k r).2.1
/-- What Decode answers. -/
def decR (b : List UInt8) : List Vl × Int := if b.length > 100 then ([], 5) else decA 7 [] b
def decD (x : List Vl × Int) : D := .tup [.list 3 (x.1.flatMap cV) x.1.length, .v (.int .i64 x.2)]
variable {G : List (Nat × List Value)}

theorem info5_Cd2 : (Tryd.prog.info? 5).map (fun i => (i.zero, i.size, i.bytes)) = some (some (.int .u8 0), 1, 1) := by kernel_rfl

set_option maxHeartbeats 4000000 in
set_option maxRecDepth 100000 in
theorem text_vp (b : List UInt8) (hb : b.length ≤ 1000) : VP Tryd.prog G 44 [bytesL b] (textD (textR b)) := by
  refine VC.body Tryd.func44 rfl Tryd.ntmps44 (Nat.le_of_ble_eq_true rfl) fun X0 w0 S00 => ?_
  unfold bytesL
  have hmx : maxLen = 9223372036854775807 := rfl
  refine CD.seq ?_
  refine CD.region ?_
  refine OD.still (wants_plain rfl) rfl (still_as rfl opd_const) ?_
  refine OD.still (wants_plain rfl) rfl (still_as rfl opd_const) ?_
  refine OD.still (wants_plain rfl) rfl (still_as rfl opd_const) ?_
  refine OD.wk (Wk.as_ (n := 46) (l' := [(0, _)]) (S' := []) rfl rfl ⟨lk, trivial⟩) ?_
  refine OD.nil ?_
  refine CD.seq ?_
  refine CD.region ?_
  refine OD.still (wants_plain rfl) rfl (still_as rfl opd_const) ?_
  refine OD.wk (Wk.as_ (n := 46) (l' := [(0, _), (5, _)]) (S' := ([])) rfl rfl ⟨lk, lk, trivial⟩) ?_
  refine OD.nil ?_
  refine CD.seq ?_
  refine CD.seq ?_
  refine CD.region ?_
  refine OD.still (wants_plain rfl) rfl (still_as rfl opd_const) ?_
  refine OD.wk (Wk.as_ (n := 46) (l' := [(0, _), (5, _), (6, _)]) (S' := ([])) rfl rfl ⟨lk, lk, lk, trivial⟩) ?_
  refine OD.nil ?_
  refine CD.block ?_
  refine CD.wk (Wk.asS (n := 46) (l' := [(0, .list 1 (b.flatMap cB) b.length), (5, .v (.slice none (([])).length (0))), (6, .v (.int .i64 ((0) : Nat)))]) (S' := (([]))) rfl (by repeat (first | exact List.Sublist.refl _ | apply List.Sublist.cons_cons | apply List.Sublist.cons)) ⟨(by (repeat (first | exact look_hit | (apply look_at; focus (first | rfl | (congr 2; omega) | (simp; done) | (apply row_eq; rfl) | (apply row_eq; rfl) | (apply row_eq; simp; done))) | (apply look_miss; focus rfl))); done), (by (repeat (first | exact look_hit | (apply look_at; focus (first | rfl | (congr 2; omega) | (simp; done) | (apply row_eq; rfl) | (apply row_eq; rfl) | (apply row_eq; simp; done))) | (apply look_miss; focus rfl))); done), (by (repeat (first | exact look_hit | (apply look_at; focus (first | rfl | (congr 2; omega) | (simp; done) | (apply row_eq; rfl) | (apply row_eq; rfl) | (apply row_eq; simp; done))) | (apply look_miss; focus rfl))); done), trivial⟩) (CD.loop (fun (gh__ : Nat × List UInt8 × Option Addr × Nat × List Blk) y__ => match gh__ with | (i, out, ado, cpo, So) => (i ≤ b.length) ∧ (out.length ≤ i) ∧ (textL b = textA out (b.drop i)) ∧ (OwnL 5 1 ((out).flatMap cB) (out).length ado cpo So) ∧ y__ = (⟨46, [(0, .list 1 (b.flatMap cB) b.length), (5, .v (.slice ado (out).length cpo)), (6, .v (.int .i64 (i : Nat)))], (So)⟩ : St)) (fun (gh__ : Nat × List UInt8 × Option Addr × Nat × List Blk) => match gh__ with | (i, out, ado, cpo, So) => b.length - i) (0, [], none, 0, []) ⟨(Nat.zero_le _), (Nat.le_refl _), (textA_nil b).symm, (OwnL.cast ownL_nil (by rfl)), rfl⟩ ?_)
  rintro ⟨i, out, ado, cpo, So⟩ _ ⟨hi, hol, hinv, hoo, rfl⟩
  refine CD.seq ?_
  refine CD.seq ?_
  refine CD.region ?_
  refine OD.still (wants_plain rfl) rfl (still_mv rfl ot) ?_
  refine OD.still (wants_plain rfl) rfl (still_bin rfl ot opd_const (bin_add (wrap_i64 (by omega) (by omega)))) ?_
  refine OD.still (wants_plain rfl) rfl (still_mv rfl ot) ?_
  refine OD.still (wants_plain rfl) rfl (still_r1 (mk := fun y => .call { callee := .builtin .len, args := #[y], argTypes := #[25] }) rfl ot (by first | exact len_list rfl Tryd.runUnderlying25 | exact len_row rfl Tryd.runUnderlying25)) ?_
  refine OD.still (wants_plain rfl) rfl (still_bin rfl ot ot bin_lss) ?_
  refine OD.wk (Wk.as_ (n := 46) (l' := [(0, _), (5, _), (6, _), (11, _)]) (S' := (So)) rfl rfl ⟨lk, lk, lk, lk, trivial⟩) ?_
  refine OD.nil ?_
  refine CD.cond ot (fun hc0 => ?_) (fun hc0 => ?_)
  · have hc0' := hc0
    (try simp only [decide_eq_true_eq, decide_eq_false_iff_not, beq_iff_eq, bne_iff_ne, Bool.not_eq_true', Bool.not_eq_false', Bool.not_eq_true, Bool.not_eq_false, beq_eq_false_iff_ne, ne_eq, bne_eq_false_iff_eq, Bool.and_eq_true, Bool.or_eq_true, Bool.not_not, Bool.and_eq_false_iff, Bool.or_eq_false_iff, Int.not_lt, Int.not_le] at hc0')
    have hlt : i + 1 < b.length := by omega
    have hi0 : i < b.length := by omega
    refine CD.skip ?_
    refine CD.seq ?_
    refine CD.block ?_
    refine CD.seq ?_
    refine CD.seq ?_
    refine CD.region ?_
    refine OD.still (wants_plain rfl) rfl (still_mv rfl ot) ?_
    refine OD.still (wants_plain rfl) rfl (still_mv rfl ot) ?_
    refine OD.still (wants_plain rfl) rfl (still_r2 (mk := Op.indexAddr 25) rfl ot ot (by first | exact ix_list Tryd.runUnderlying25 Tryd.sizeOf5 rfl (by first | assumption | omega) | exact ix_list (j := Int.toNat _) Tryd.runUnderlying25 Tryd.sizeOf5 (Int.toNat_of_nonneg (by omega)).symm (by omega) | exact ix_row Tryd.runUnderlying25 Tryd.sizeOf5 rfl (by first | assumption | omega) | exact ix_row (j := Int.toNat _) Tryd.runUnderlying25 Tryd.sizeOf5 (Int.toNat_of_nonneg (by omega)).symm (by omega))) ?_
    refine OD.still (wants_plain rfl) rfl (still_r1 (mk := Op.load 5) rfl ot (by first | exact ld_fm cB_len Tryd.isAgg5 (by first | assumption | omega) rfl | exact ld_fm0 cB_len Tryd.isAgg5 (by first | assumption | omega) rfl | exact ld_i Tryd.isAgg5 rfl)) ?_
    refine OD.still (wants_plain rfl) rfl (still_bin rfl ot opd_const bin_neq) ?_
    refine OD.wk (Wk.as_ (n := 46) (l' := [(0, _), (5, _), (6, _), (18, _)]) (S' := (So)) rfl rfl ⟨lk, lk, lk, lk, trivial⟩) ?_
    refine OD.nil ?_
    refine CD.cond ot (fun hc1 => ?_) (fun hc1 => ?_)
    · have hc1' := hc1
      (try simp only [decide_eq_true_eq, decide_eq_false_iff_not, beq_iff_eq, bne_iff_ne, Bool.not_eq_true', Bool.not_eq_false', Bool.not_eq_true, Bool.not_eq_false, beq_eq_false_iff_ne, ne_eq, bne_eq_false_iff_eq, Bool.and_eq_true, Bool.or_eq_true, Bool.not_not, Bool.and_eq_false_iff, Bool.or_eq_false_iff, Int.not_lt, Int.not_le] at hc1')
      have hz : ¬ b[i] = 0 := by intro e; rw [e] at hc1; simp at hc1
      refine CD.seq ?_
      refine CD.region ?_
      refine OD.still (wants_plain rfl) rfl (still_mv rfl ot) ?_
      refine OD.still (wants_plain rfl) rfl (still_mv rfl ot) ?_
      refine OD.still (wants_plain rfl) rfl (still_mv rfl ot) ?_
      refine OD.still (wants_plain rfl) rfl (still_r2 (mk := Op.indexAddr 25) rfl ot ot (by first | exact ix_list Tryd.runUnderlying25 Tryd.sizeOf5 rfl (by first | assumption | omega) | exact ix_list (j := Int.toNat _) Tryd.runUnderlying25 Tryd.sizeOf5 (Int.toNat_of_nonneg (by omega)).symm (by omega) | exact ix_row Tryd.runUnderlying25 Tryd.sizeOf5 rfl (by first | assumption | omega) | exact ix_row (j := Int.toNat _) Tryd.runUnderlying25 Tryd.sizeOf5 (Int.toNat_of_nonneg (by omega)).symm (by omega))) ?_
      refine OD.still (wants_plain rfl) rfl (still_r1 (mk := Op.load 5) rfl ot (by first | exact ld_fm cB_len Tryd.isAgg5 (by first | assumption | omega) rfl | exact ld_fm0 cB_len Tryd.isAgg5 (by first | assumption | omega) rfl | exact ld_i Tryd.isAgg5 rfl)) ?_
      refine OD.bldS (pl := [(0, _)]) (zvs := [.int .u8 0]) (ds := [_]) (wants_plain rfl) rfl rfl Tryd.zeroValue5 Tryd.runUnderlying25 Tryd.sizeOf5 rfl rfl (by kernel_rfl) ⟨rfl, ot, trivial⟩ rfl rfl (fun b24 => ?_)
      refine OD.give (k := 0) (t := 24) (sz := 1) (m := 1) rfl lk rfl rfl rfl (Nat.le_refl _) (by decide) ?_
      refine OD.appendG (ls := (out)) (new := [b[i]]) (Sq := So) cB_len cB_one (wants_plain rfl) rfl rfl Tryd.underlying25 info5_Cd2 rfl (by decide) ot hoo (perm_r11 (A := [])) ot (by simp) (by have hmx : maxLen = 9223372036854775807 := rfl; (try simp only [List.length_append, List.length_cons, List.length_nil]); omega) (by have hmx : maxLen = 9223372036854775807 := rfl; (try simp only [List.length_append, List.length_cons, List.length_nil]); omega) (fun b25 cp25 h125 h225 => ?_)
      refine OD.perm (perm_q11 (S1 := [⟨b25, 5, cp25 * 1, List.flatMap cB ((out) ++ [b[i]])⟩]) (A := [])) ?_
      refine OD.still (wants_plain rfl) rfl (still_as rfl ot) ?_
      refine OD.wk (Wk.as_ (n := 46) (l' := [(0, _), (5, _), (6, _)]) (S' := ([⟨b25, 5, cp25 * 1, List.flatMap cB ((out) ++ [b[i]])⟩])) rfl rfl ⟨lk, lk, lk, trivial⟩) ?_
      refine OD.nil ?_
      refine CD.exit ?_
      refine CD.region ?_
      refine OD.still (wants_plain rfl) rfl (still_mv rfl ot) ?_
      refine OD.still (wants_plain rfl) rfl (still_bin rfl ot opd_const (bin_add (wrap_i64 (by omega) (by omega)))) ?_
      refine OD.still (wants_plain rfl) rfl (still_as rfl ot) ?_
      refine OD.wk (Wk.as_ (n := 46) (l' := [(0, _), (5, _), (6, _)]) (S' := ([⟨b25, 5, cp25 * 1, List.flatMap cB ((out) ++ [b[i]])⟩])) rfl rfl ⟨lk, lk, lk, trivial⟩) ?_
      refine OD.nil ?_
      refine ⟨((i + 1), (out ++ [b[i]]), (some ⟨b25, 0, none⟩), cp25, [⟨b25, 5, cp25 * 1, List.flatMap cB ((out) ++ [b[i]])⟩]), ⟨46, [(0, .list 1 (b.flatMap cB) b.length), (5, .v (.slice ((some ⟨b25, 0, none⟩)) (((out ++ [b[i]]))).length cp25)), (6, .v (.int .i64 (((i + 1)) : Nat)))], (([⟨b25, 5, cp25 * 1, List.flatMap cB ((out) ++ [b[i]])⟩]))⟩, ?_, Wk.asS (n := 46) rfl (by repeat (first | exact List.Sublist.refl _ | apply List.Sublist.cons_cons | apply List.Sublist.cons)) ⟨(by (repeat (first | exact look_hit | (apply look_at; focus (first | rfl | (congr 2; omega) | (simp; done) | (apply row_eq; rfl) | (apply row_eq; rfl) | (apply row_eq; simp; done))) | (apply look_miss; focus rfl))); done), (by (repeat (first | exact look_hit | (apply look_at; focus (first | rfl | (congr 2; omega) | (simp; done) | (apply row_eq; rfl) | (apply row_eq; rfl) | (apply row_eq; simp; done))) | (apply look_miss; focus rfl))); done), (by (repeat (first | exact look_hit | (apply look_at; focus (first | rfl | (congr 2; omega) | (simp; done) | (apply row_eq; rfl) | (apply row_eq; rfl) | (apply row_eq; simp; done))) | (apply look_miss; focus rfl))); done), trivial⟩, (by omega), (by simp; omega), (hinv.trans (textA_lit hlt hz)), (OwnL.cast (ownL_row h125 h225) (by rfl)), rfl⟩
      first | omega | (simp only []; omega)
    · have hc1' := hc1
      (try simp only [decide_eq_true_eq, decide_eq_false_iff_not, beq_iff_eq, bne_iff_ne, Bool.not_eq_true', Bool.not_eq_false', Bool.not_eq_true, Bool.not_eq_false, beq_eq_false_iff_ne, ne_eq, bne_eq_false_iff_eq, Bool.and_eq_true, Bool.or_eq_true, Bool.not_not, Bool.and_eq_false_iff, Bool.or_eq_false_iff, Int.not_lt, Int.not_le] at hc1')
      have hz : b[i] = 0 := by simp at hc1; exact UInt8.toNat_inj.1 (by simpa using hc1)
      refine CD.skip ?_
      refine CD.seq ?_
      refine CD.region ?_
      refine OD.still (wants_plain rfl) rfl (still_mv rfl ot) ?_
      refine OD.still (wants_plain rfl) rfl (still_mv rfl ot) ?_
      refine OD.still (wants_plain rfl) rfl (still_bin rfl ot opd_const (bin_add (wrap_i64 (by omega) (by omega)))) ?_
      refine OD.still (wants_plain rfl) rfl (still_r2 (mk := Op.indexAddr 25) rfl ot ot (by first | exact ix_list Tryd.runUnderlying25 Tryd.sizeOf5 (j := i + 1) (by omega) (by omega) | exact ix_row Tryd.runUnderlying25 Tryd.sizeOf5 (j := i + 1) (by omega) (by omega))) ?_
      refine OD.still (wants_plain rfl) rfl (still_r1 (mk := Op.load 5) rfl ot (by first | exact ld_fm cB_len Tryd.isAgg5 (by first | assumption | omega) rfl | exact ld_fm0 cB_len Tryd.isAgg5 (by first | assumption | omega) rfl | exact ld_i Tryd.isAgg5 rfl)) ?_
      refine OD.wk (Wk.as_ (n := 46) (l' := [(0, _), (5, _), (6, _), (30, _)]) (S' := (So)) rfl rfl ⟨lk, lk, lk, lk, trivial⟩) ?_
      refine OD.nil ?_
      refine CD.block ?_
      refine CD.seq ?_
      refine CD.region ?_
      refine OD.still (wants_plain rfl) rfl (still_bin rfl ot opd_const bin_eql) ?_
      refine OD.still (wants_plain rfl) rfl (still_as rfl ot) ?_
      refine OD.wk (Wk.as_ (n := 46) (l' := [(0, _), (5, _), (6, _), (30, _), (31, _)]) (S' := (So)) rfl rfl ⟨lk, lk, lk, lk, lk, trivial⟩) ?_
      refine OD.nil ?_
      refine CD.cond ot (fun hc2 => ?_) (fun hc2 => ?_)
      · have hc2' := hc2
        (try simp only [decide_eq_true_eq, decide_eq_false_iff_not, beq_iff_eq, bne_iff_ne, Bool.not_eq_true', Bool.not_eq_false', Bool.not_eq_true, Bool.not_eq_false, beq_eq_false_iff_ne, ne_eq, bne_eq_false_iff_eq, Bool.and_eq_true, Bool.or_eq_true, Bool.not_not, Bool.and_eq_false_iff, Bool.or_eq_false_iff, Int.not_lt, Int.not_le] at hc2')
        have hz1 : b[i + 1] = 0 := by simp at hc2; exact UInt8.toNat_inj.1 (by simpa using hc2)
        have hres : textR b = (⟨out.toArray⟩, b.drop (i + 2), true) := by unfold textR; rw [hinv, textA_end hlt hz hz1]
        refine CD.seq ?_
        refine CD.giveL (t := 5) (Sq := So) lk hoo (fm_len cB_len _) (perm_r11 (A := [])) ?_
        refine CD.draw (bks _) (by kernel_rfl) (fun _ h => h) ?_
        refine AD0.take (i := 0) rfl (by kernel_rfl) (by kernel_rfl) (by kernel_rfl) (by repeat (first | exact NP.body | apply NP.then | apply NP.cut | apply NP.inBlock | apply NP.round)) (wants_plain rfl) rfl (still_mv rfl ot) (by exact trivial) ?_
        refine AD0.take (i := 2) rfl (by kernel_rfl) (by kernel_rfl) (by kernel_rfl) (by repeat (first | exact NP.body | apply NP.then | apply NP.cut | apply NP.inBlock | apply NP.round)) (wants_plain rfl) rfl (still_mv rfl ot) (by exact trivial) ?_
        refine AD0.take (i := 3) rfl (by kernel_rfl) (by kernel_rfl) (by kernel_rfl) (by repeat (first | exact NP.body | apply NP.then | apply NP.cut | apply NP.inBlock | apply NP.round)) (wants_plain rfl) rfl (still_mv rfl ot) (by exact trivial) ?_
        refine AD0.take (i := 4) rfl (by kernel_rfl) (by kernel_rfl) (by kernel_rfl) (by repeat (first | exact NP.body | apply NP.then | apply NP.cut | apply NP.inBlock | apply NP.round)) (wants_plain rfl) rfl (still_bin rfl ot opd_const (bin_add (wrap_i64 (by omega) (by omega)))) (by exact trivial) ?_
        refine AD0.take (i := 5) rfl (by kernel_rfl) (by kernel_rfl) (by kernel_rfl) (by repeat (first | exact NP.body | apply NP.then | apply NP.cut | apply NP.inBlock | apply NP.round)) (wants_plain rfl) rfl (still_rs (l := (i + 2)) rfl ot ⟨_, ot⟩ trivial (by first | exact sl_tail rfl cB_len (fun h => by cases h) Tryd.runUnderlying25 Tryd.sizeOf5 (by omega) | exact sl_row (fun _ => rfl) Tryd.runUnderlying25 Tryd.sizeOf5 (by omega) | exact sl_list (fun h => by cases h) (fun _ => rfl) Tryd.runUnderlying25 Tryd.sizeOf5 (by omega) (by omega))) (by exact trivial) ?_
        refine AD0.later rfl ?_
        refine AD.one (i := 1) (by kernel_rfl) ?_
        first | refine AStep.still rfl (wants_plain rfl) rfl (still_ofBytes rfl ot Tryd.underlying25 Tryd.underlying5 Tryd.underlying9) ?_ | refine AStep.still rfl (wants_plain rfl) rfl (still_ofBytesF rfl ot Tryd.underlying25 Tryd.underlying5 Tryd.underlying9) ?_
        refine AD.take (i := 6) rfl (by kernel_rfl) (by kernel_rfl) (by kernel_rfl) (by repeat (first | exact NP.body | apply NP.then | apply NP.cut | apply NP.inBlock | apply NP.round)) (wants_plain rfl) rfl (still_as rfl ot) (by exact trivial) (by intro h; cases h) ?_
        refine AD.take (i := 7) rfl (by kernel_rfl) (by kernel_rfl) (by kernel_rfl) (by repeat (first | exact NP.body | apply NP.then | apply NP.cut | apply NP.inBlock | apply NP.round)) (wants_plain rfl) rfl (still_as rfl ot) (by exact trivial) (by intro h; cases h) ?_
        refine AD.take (i := 8) rfl (by kernel_rfl) (by kernel_rfl) (by kernel_rfl) (by repeat (first | exact NP.body | apply NP.then | apply NP.cut | apply NP.inBlock | apply NP.round)) (wants_plain rfl) rfl (still_as rfl opd_const) (by exact trivial) (by intro h; cases h) ?_
        refine AD.wk (y := ⟨46, [(2, _), (3, _), (4, _)], []⟩) (Wk.as_ rfl rfl ⟨lk, lk, lk, trivial⟩) rfl ?_
        refine AD.done (by kernel_rfl) ?_
        refine CD.ret ?_
        refine ⟨.inr rfl, _, [], List.nil_sublist _, ret_three Tryd.results44 (res_tmp (Nat.le_of_ble_eq_true rfl) lk) (res_tmp (Nat.le_of_ble_eq_true rfl) lk) (res_tmp (Nat.le_of_ble_eq_true rfl) lk), ?_⟩
        rw [hres]; exact ⟨rfl, rfl⟩
      · have hc2' := hc2
        (try simp only [decide_eq_true_eq, decide_eq_false_iff_not, beq_iff_eq, bne_iff_ne, Bool.not_eq_true', Bool.not_eq_false', Bool.not_eq_true, Bool.not_eq_false, beq_eq_false_iff_ne, ne_eq, bne_eq_false_iff_eq, Bool.and_eq_true, Bool.or_eq_true, Bool.not_not, Bool.and_eq_false_iff, Bool.or_eq_false_iff, Int.not_lt, Int.not_le] at hc2')
        have hz1 : ¬ b[i + 1] = 0 := by intro e; rw [e] at hc2; simp at hc2
        refine CD.seq ?_
        refine CD.region ?_
        refine OD.still (wants_plain rfl) rfl (still_bin rfl ot opd_const bin_eql) ?_
        refine OD.still (wants_plain rfl) rfl (still_as rfl ot) ?_
        refine OD.wk (Wk.as_ (n := 46) (l' := [(0, _), (5, _), (6, _), (39, _)]) (S' := (So)) rfl rfl ⟨lk, lk, lk, lk, trivial⟩) ?_
        refine OD.nil ?_
        refine CD.cond ot (fun hc3 => ?_) (fun hc3 => ?_)
        · have hc3' := hc3
          (try simp only [decide_eq_true_eq, decide_eq_false_iff_not, beq_iff_eq, bne_iff_ne, Bool.not_eq_true', Bool.not_eq_false', Bool.not_eq_true, Bool.not_eq_false, beq_eq_false_iff_ne, ne_eq, bne_eq_false_iff_eq, Bool.and_eq_true, Bool.or_eq_true, Bool.not_not, Bool.and_eq_false_iff, Bool.or_eq_false_iff, Int.not_lt, Int.not_le] at hc3')
          have hz2 : b[i + 1] = 255 := by simp at hc3; exact UInt8.toNat_inj.1 (by show b[i + 1].toNat = 255; omega)
          refine CD.seq ?_
          refine CD.region ?_
          refine OD.still (wants_plain rfl) rfl (still_mv rfl ot) ?_
          refine OD.bldS (pl := [(0, _)]) (zvs := [.int .u8 0]) (ds := [_]) (wants_plain rfl) rfl rfl Tryd.zeroValue5 Tryd.runUnderlying25 Tryd.sizeOf5 rfl rfl (by kernel_rfl) ⟨rfl, opd_const, trivial⟩ rfl rfl (fun b42 => ?_)
          refine OD.give (k := 0) (t := 42) (sz := 1) (m := 1) rfl lk rfl rfl rfl (Nat.le_refl _) (by decide) ?_
          refine OD.appendG (ls := (out)) (new := [(0 : UInt8)]) (Sq := So) cB_len cB_one (wants_plain rfl) rfl rfl Tryd.underlying25 info5_Cd2 rfl (by decide) ot hoo (perm_r11 (A := [])) ot (by simp) (by have hmx : maxLen = 9223372036854775807 := rfl; (try simp only [List.length_append, List.length_cons, List.length_nil]); omega) (by have hmx : maxLen = 9223372036854775807 := rfl; (try simp only [List.length_append, List.length_cons, List.length_nil]); omega) (fun b43 cp43 h143 h243 => ?_)
          refine OD.perm (perm_q11 (S1 := [⟨b43, 5, cp43 * 1, List.flatMap cB ((out) ++ [(0 : UInt8)])⟩]) (A := [])) ?_
          refine OD.still (wants_plain rfl) rfl (still_as rfl ot) ?_
          refine OD.wk (Wk.as_ (n := 46) (l' := [(0, _), (5, _), (6, _)]) (S' := ([⟨b43, 5, cp43 * 1, List.flatMap cB ((out) ++ [(0 : UInt8)])⟩])) rfl rfl ⟨lk, lk, lk, trivial⟩) ?_
          refine OD.nil ?_
          refine CD.region ?_
          refine OD.still (wants_plain rfl) rfl (still_mv rfl ot) ?_
          refine OD.still (wants_plain rfl) rfl (still_bin rfl ot opd_const (bin_add (wrap_i64 (by omega) (by omega)))) ?_
          refine OD.still (wants_plain rfl) rfl (still_as rfl ot) ?_
          refine OD.wk (Wk.as_ (n := 46) (l' := [(0, _), (5, _), (6, _)]) (S' := ([⟨b43, 5, cp43 * 1, List.flatMap cB ((out) ++ [(0 : UInt8)])⟩])) rfl rfl ⟨lk, lk, lk, trivial⟩) ?_
          refine OD.nil ?_
          refine CD.region ?_
          refine OD.still (wants_plain rfl) rfl (still_mv rfl ot) ?_
          refine OD.still (wants_plain rfl) rfl (still_bin rfl ot opd_const (bin_add (wrap_i64 (by omega) (by omega)))) ?_
          refine OD.still (wants_plain rfl) rfl (still_as rfl ot) ?_
          refine OD.wk (Wk.as_ (n := 46) (l' := [(0, _), (5, _), (6, _)]) (S' := ([⟨b43, 5, cp43 * 1, List.flatMap cB ((out) ++ [(0 : UInt8)])⟩])) rfl rfl ⟨lk, lk, lk, trivial⟩) ?_
          refine OD.nil ?_
          refine ⟨((i + 2), (out ++ [(0 : UInt8)]), (some ⟨b43, 0, none⟩), cp43, [⟨b43, 5, cp43 * 1, List.flatMap cB ((out) ++ [(0 : UInt8)])⟩]), ⟨46, [(0, .list 1 (b.flatMap cB) b.length), (5, .v (.slice ((some ⟨b43, 0, none⟩)) (((out ++ [(0 : UInt8)]))).length cp43)), (6, .v (.int .i64 (((i + 2)) : Nat)))], (([⟨b43, 5, cp43 * 1, List.flatMap cB ((out) ++ [(0 : UInt8)])⟩]))⟩, ?_, Wk.asS (n := 46) rfl (by repeat (first | exact List.Sublist.refl _ | apply List.Sublist.cons_cons | apply List.Sublist.cons)) ⟨(by (repeat (first | exact look_hit | (apply look_at; focus (first | rfl | (congr 2; omega) | (simp; done) | (apply row_eq; rfl) | (apply row_eq; rfl) | (apply row_eq; simp; done))) | (apply look_miss; focus rfl))); done), (by (repeat (first | exact look_hit | (apply look_at; focus (first | rfl | (congr 2; omega) | (simp; done) | (apply row_eq; rfl) | (apply row_eq; rfl) | (apply row_eq; simp; done))) | (apply look_miss; focus rfl))); done), (by (repeat (first | exact look_hit | (apply look_at; focus (first | rfl | (congr 2; omega) | (simp; done) | (apply row_eq; rfl) | (apply row_eq; rfl) | (apply row_eq; simp; done))) | (apply look_miss; focus rfl))); done), trivial⟩, (by omega), (by simp; omega), (hinv.trans (textA_esc hlt hz hz1 hz2)), (OwnL.cast (ownL_row h143 h243) (by rfl)), rfl⟩
          first | omega | (simp only []; omega)
        · have hc3' := hc3
          (try simp only [decide_eq_true_eq, decide_eq_false_iff_not, beq_iff_eq, bne_iff_ne, Bool.not_eq_true', Bool.not_eq_false', Bool.not_eq_true, Bool.not_eq_false, beq_eq_false_iff_ne, ne_eq, bne_eq_false_iff_eq, Bool.and_eq_true, Bool.or_eq_true, Bool.not_not, Bool.and_eq_false_iff, Bool.or_eq_false_iff, Int.not_lt, Int.not_le] at hc3')
          have hz2 : ¬ b[i + 1] = 255 := by intro e; rw [e] at hc3; simp at hc3
          have hres : textR b = (⟨#[]⟩, [], false) := by unfold textR; rw [hinv, textA_bad hlt hz hz1 hz2]
          refine CD.seq ?_
          refine CD.region ?_
          refine OD.still (wants_plain rfl) rfl (still_as rfl opd_const) ?_
          refine OD.still (wants_plain rfl) rfl (still_as rfl opd_const) ?_
          refine OD.still (wants_plain rfl) rfl (still_as rfl opd_const) ?_
          refine OD.wk (Wk.as_ (n := 46) (l' := [(2, _), (3, _), (4, _)]) (S' := (So)) rfl rfl ⟨lk, lk, lk, trivial⟩) ?_
          refine OD.nil ?_
          refine CD.wk (Wk.giveNil (t := 3) (sz := 1) lk) ?_
          refine CD.ret ?_
          refine ⟨.inr rfl, _, [], List.nil_sublist _, ret_three Tryd.results44 (res_tmp (Nat.le_of_ble_eq_true rfl) lk) (res_tmp (Nat.le_of_ble_eq_true rfl) lk) (res_tmp (Nat.le_of_ble_eq_true rfl) lk), ?_⟩
          rw [hres]; exact ⟨rfl, rfl⟩
  · have hc0' := hc0
    (try simp only [decide_eq_true_eq, decide_eq_false_iff_not, beq_iff_eq, bne_iff_ne, Bool.not_eq_true', Bool.not_eq_false', Bool.not_eq_true, Bool.not_eq_false, beq_eq_false_iff_ne, ne_eq, bne_eq_false_iff_eq, Bool.and_eq_true, Bool.or_eq_true, Bool.not_not, Bool.and_eq_false_iff, Bool.or_eq_false_iff, Int.not_lt, Int.not_le] at hc0')
    have hres : textR b = (⟨#[]⟩, [], false) := by unfold textR; rw [hinv, textA_short (by omega)]
    refine CD.exit ?_
    refine CD.seq ?_
    refine CD.region ?_
    refine OD.still (wants_plain rfl) rfl (still_as rfl opd_const) ?_
    refine OD.still (wants_plain rfl) rfl (still_as rfl opd_const) ?_
    refine OD.still (wants_plain rfl) rfl (still_as rfl opd_const) ?_
    refine OD.wk (Wk.as_ (n := 46) (l' := [(2, _), (3, _), (4, _)]) (S' := (So)) rfl rfl ⟨lk, lk, lk, trivial⟩) ?_
    refine OD.nil ?_
    refine CD.wk (Wk.giveNil (t := 3) (sz := 1) lk) ?_
    refine CD.ret ?_
    refine ⟨.inr rfl, _, [], List.nil_sublist _, ret_three Tryd.results44 (res_tmp (Nat.le_of_ble_eq_true rfl) lk) (res_tmp (Nat.le_of_ble_eq_true rfl) lk) (res_tmp (Nat.le_of_ble_eq_true rfl) lk), ?_⟩
    rw [hres]; exact ⟨rfl, rfl⟩

theorem need_at (k : UInt8) (h : ¬ k.toNat > 3) : ([.v (.int .i64 0), .v (.int .i64 1), .v (.int .i64 8), .v (.int .i64 2)] : List D)[0 + k.toNat * 1]? = some (.v (.int .i64 ((needF k : Nat) : Int))) := by
  have h4 : k.toNat = 0 ∨ k.toNat = 1 ∨ k.toNat = 2 ∨ k.toNat = 3 := by omega
  rcases h4 with e | e | e | e <;> rw [e]
  · have : k = 0 := UInt8.toNat_inj.1 e
    subst this; rfl
  · have : k = 1 := UInt8.toNat_inj.1 e
    subst this; rfl
  · have : k = 2 := UInt8.toNat_inj.1 e
    subst this; rfl
  · have : k = 3 := UInt8.toNat_inj.1 e
    subst this; rfl
theorem need_bd (k : UInt8) : needF k ≤ 8 := by unfold needF; split <;> (try split) <;> (try split) <;> omega
theorem need_of {k c : UInt8} (h : k = c) : needF k = needF c := by rw [h]
theorem unbe_step {l : List UInt8} {i : Nat} (hi : i < l.length) : unbe (l.take (i + 1)) = unbe (l.take i) * 256 + l[i].toNat := by rw [List.take_succ_eq_append_getElem hi, unbe_snoc]
theorem one_rest (k : UInt8) (r : List UInt8) : (oneR k r).2.1.length ≤ r.length := by
  have htext : ∀ (n : Nat) (l : List UInt8), l.length ≤ n → ∀ p, textL l = some p → p.2.length ≤ l.length := by
    intro n
    induction n with
    | zero =>
      intro l hl p hp
      have hn : l = [] := List.eq_nil_of_length_eq_zero (by omega)
      subst hn
      cases hp
    | succ n ih =>
      intro l hl p hp
      match l, hl, hp with
      | a :: b :: q, hl, hp =>
        rw [textL] at hp
        simp only [List.length_cons] at hl ⊢
        split at hp
        · split at hp
          · cases hp; simp; omega
          · split at hp
            · cases ht : textL q with
              | none => rw [ht] at hp; cases hp
              | some p2 => rw [ht] at hp; cases hp; have := ih q (by omega) p2 ht; simp; omega
            · cases hp
        · cases ht : textL (b :: q) with
          | none => rw [ht] at hp; cases hp
          | some p2 => rw [ht] at hp; cases hp; have := ih (b :: q) (by simp; omega) p2 ht; simp at this ⊢; omega
  unfold oneR
  split
  · exact Nat.zero_le _
  · split
    · exact Nat.zero_le _
    · split
      · split
        · exact Nat.zero_le _
        · simp
      · split
        · simp
        · split
          · split
            · exact Nat.zero_le _
            · rename_i p hp
              split
              · exact Nat.zero_le _
              · exact htext _ r (Nat.le_refl _) p hp
          · exact Nat.le_refl _

theorem places30_Cd2 : ∀ w, ((#[{ name := "Kind", type := 3, offset := 0, embedded := false, tag := "", pkgPath := "", byteOffset := 0 }, { name := "Int", type := 3, offset := 1, embedded := false, tag := "", pkgPath := "", byteOffset := 8 }, { name := "Text", type := 9, offset := 2, embedded := false, tag := "", pkgPath := "", byteOffset := 16 }] : Array Field).mapM fun f => do pure (f.offset, ← sizeOf f.type) : Sem (Array (Nat × Nat))).run Tryd.prog w = .ok #[(0, 1), (1, 1), (2, 1)] w := fun w => by simp [Tryd.sizeOf3, Tryd.sizeOf9]

set_option maxHeartbeats 4000000 in
set_option maxRecDepth 100000 in
theorem one_vp (k : UInt8) (r : List UInt8) (hb : r.length ≤ 100) : VP Tryd.prog G 31 [bytesL (k :: r)] (oneD (oneR k r)) := by
  refine VC.body Tryd.func31 rfl Tryd.ntmps31 (Nat.le_of_ble_eq_true rfl) fun X0 w0 S00 => ?_
  unfold bytesL
  have hmx : maxLen = 9223372036854775807 := rfl
  have hkl := k.toNat_lt
  have hnb := need_bd k
  have hcons : (k :: r).length = r.length + 1 := rfl
  refine CD.seq ?_
  refine CD.region ?_
  refine OD.alloc (ds := [_, _, _]) (wants_plain rfl) rfl rfl Tryd.zeroValue30 rfl (fun b2 => ?_)
  refine OD.still (wants_plain rfl) rfl (still_as rfl opd_const) ?_
  refine OD.still (wants_plain rfl) rfl (still_as rfl opd_const) ?_
  refine OD.wk (Wk.as_ (n := 93) (l' := [(0, _), (2, _)]) (S' := [⟨b2, 30, 3, [_, _, _]⟩]) rfl rfl ⟨lk, lk, trivial⟩) ?_
  refine OD.nil ?_
  refine CD.seq ?_
  refine CD.region ?_
  refine OD.still (wants_plain rfl) rfl (still_mv rfl ot) ?_
  refine OD.still (wants_plain rfl) rfl (still_r2 (mk := Op.indexAddr 25) rfl ot opd_const (by first | exact ix_list (j := 0) Tryd.runUnderlying25 Tryd.sizeOf5 rfl (by first | omega | decide) | exact ix_row (j := 0) Tryd.runUnderlying25 Tryd.sizeOf5 rfl (by first | omega | decide))) ?_
  refine OD.still (wants_plain rfl) rfl (still_r1 (mk := Op.load 5) rfl ot (ld_i Tryd.isAgg5 rfl)) ?_
  refine OD.still (wants_plain rfl) rfl (still_conv rfl ot (conv_int Tryd.runUnderlying5 Tryd.runUnderlying3 (wrap_i64 (by omega) (by omega)))) ?_
  refine OD.still (wants_plain rfl) rfl (still_bld (pl := [(0, _)]) (ds := [_, _, _]) rfl Tryd.zeroValue30 Tryd.runUnderlying30 places30_Cd2 ⟨rfl, ot, trivial⟩ rfl rfl) ?_
  refine OD.alloc (ds := [_, _, _]) (wants_plain rfl) rfl rfl Tryd.zeroValue30 rfl (fun b5 => ?_)
  refine OD.store (k := 0) (cs' := [_, _, _]) (wants_plain rfl) rfl rfl ot rfl rfl ot rfl rfl Tryd.sizeOf30 rfl rfl rfl ?_
  refine OD.wk (Wk.as_ (n := 93) (l' := [(0, _), (2, _), (5, _)]) (S' := [⟨b5, 30, 3, [_, _, _]⟩, ⟨b2, 30, 3, [_, _, _]⟩]) rfl rfl ⟨lk, lk, lk, trivial⟩) ?_
  refine OD.nil ?_
  refine CD.seq ?_
  refine CD.region ?_
  refine OD.still (wants_plain rfl) rfl (still_mv rfl ot) ?_
  refine OD.still (wants_plain rfl) rfl (still_rs (l := 1) rfl ot ⟨_, opd_const⟩ trivial (by first | exact sl_tail rfl cB_len (fun h => by cases h) Tryd.runUnderlying25 Tryd.sizeOf5 (by omega) | exact sl_row (fun _ => rfl) Tryd.runUnderlying25 Tryd.sizeOf5 (by omega) | exact sl_list (fun h => by cases h) (fun _ => rfl) Tryd.runUnderlying25 Tryd.sizeOf5 (by omega) (by omega))) ?_
  refine OD.still (wants_plain rfl) rfl (still_as rfl ot) ?_
  refine OD.wk (Wk.as_ (n := 93) (l' := [(0, _), (2, _), (5, _)]) (S' := [⟨b5, 30, 3, [_, _, _]⟩, ⟨b2, 30, 3, [_, _, _]⟩]) rfl rfl ⟨lk, lk, lk, trivial⟩) ?_
  refine OD.nil ?_
  refine CD.seq ?_
  refine CD.region ?_
  refine OD.still (wants_plain rfl) rfl (still_bldA (pl := [(0, _), (1, _), (2, _), (3, _)]) (ds := [_, _, _, _]) rfl Tryd.zeroValue87 Tryd.runUnderlying87 Tryd.sizeOf3 ⟨rfl, opd_const, rfl, opd_const, rfl, opd_const, rfl, opd_const, trivial⟩ rfl rfl) ?_
  refine OD.alloc (ds := [_, _, _, _]) (wants_plain rfl) rfl rfl Tryd.zeroValue87 rfl (fun b6 => ?_)
  refine OD.store (k := 0) (cs' := [_, _, _, _]) (wants_plain rfl) rfl rfl ot rfl rfl ot rfl rfl Tryd.sizeOf87 rfl rfl rfl ?_
  refine OD.wk (Wk.as_ (n := 93) (l' := [(0, _), (2, _), (5, _), (6, _)]) (S' := [⟨b6, 87, 4, [_, _, _, _]⟩, ⟨b5, 30, 3, [_, _, _]⟩, ⟨b2, 30, 3, [_, _, _]⟩]) rfl rfl ⟨lk, lk, lk, lk, trivial⟩) ?_
  refine OD.nil ?_
  refine CD.seq ?_
  refine CD.block ?_
  refine CD.seq ?_
  refine CD.region ?_
  refine OD.still (wants_plain rfl) rfl (still_r1 (mk := fun y => Op.fieldAddr 30 y 0) rfl ot (by first | exact fa_ptr (off := 0) Tryd.runUnderlying30 rfl Tryd.sizeOf3 rfl | exact fa_iptr (off := 0) Tryd.runUnderlying30 rfl Tryd.sizeOf3 rfl)) ?_
  refine OD.still (wants_plain rfl) rfl (still_r1 (mk := Op.load 3) rfl ot (by first | exact ld_blk (k := 1) rfl rfl Tryd.isAgg3 rfl | exact ld_fm cB_len Tryd.isAgg3 (by first | assumption | omega) rfl | exact ld_fm0 cB_len Tryd.isAgg3 (by first | assumption | omega) rfl | exact ld_row (k := 0) cB_len rfl rfl rfl Tryd.isAgg3 (by first | assumption | omega) rfl | exact ld_row0 (k := 0) cB_len rfl rfl rfl Tryd.isAgg3 (by first | assumption | omega) rfl | exact ld_row (k := 1) cB_len rfl rfl rfl Tryd.isAgg3 (by first | assumption | omega) rfl | exact ld_row0 (k := 1) cB_len rfl rfl rfl Tryd.isAgg3 (by first | assumption | omega) rfl | exact ld_row (k := 2) cB_len rfl rfl rfl Tryd.isAgg3 (by first | assumption | omega) rfl | exact ld_row0 (k := 2) cB_len rfl rfl rfl Tryd.isAgg3 (by first | assumption | omega) rfl | exact ld_i Tryd.isAgg3 rfl)) ?_
  refine OD.still (wants_plain rfl) rfl (still_bin rfl ot opd_const bin_gtr) ?_
  refine OD.still (wants_plain rfl) rfl (still_as rfl ot) ?_
  refine OD.wk (Wk.as_ (n := 93) (l' := [(0, _), (2, _), (5, _), (6, _), (21, _)]) (S' := [⟨b6, 87, 4, [_, _, _, _]⟩, ⟨b5, 30, 3, [_, _, _]⟩, ⟨b2, 30, 3, [_, _, _]⟩]) rfl rfl ⟨lk, lk, lk, lk, lk, trivial⟩) ?_
  refine OD.nil ?_
  refine CD.cond ot (fun hc0 => ?_) (fun hc0 => ?_)
  · have hc0' := hc0
    (try simp only [decide_eq_true_eq, decide_eq_false_iff_not, beq_iff_eq, bne_iff_ne, Bool.not_eq_true', Bool.not_eq_false', Bool.not_eq_true, Bool.not_eq_false, beq_eq_false_iff_ne, ne_eq, bne_eq_false_iff_eq, Bool.and_eq_true, Bool.or_eq_true, Bool.not_not, Bool.and_eq_false_iff, Bool.or_eq_false_iff, Int.not_lt, Int.not_le] at hc0')
    have hres : oneR k r = (bv k 0 ⟨#[]⟩, [], 2) := by unfold oneR; rw [if_pos (by omega)]
    refine CD.seq ?_
    refine CD.region ?_
    refine OD.still (wants_plain rfl) rfl (still_r1 (mk := Op.load 30) rfl ot (by first | exact ld_blks (k := 1) (ds := [_, _, _]) rfl rfl Tryd.isAgg30 Tryd.sizeOf30 rfl rfl | exact ld_fms cB_len Tryd.isAgg30 Tryd.sizeOf30 (by first | assumption | omega) | exact ld_rows (k := 0) cB_len rfl rfl rfl Tryd.isAgg30 Tryd.sizeOf30 (by first | assumption | omega) | exact ld_rows (k := 1) cB_len rfl rfl rfl Tryd.isAgg30 Tryd.sizeOf30 (by first | assumption | omega) | exact ld_rows (k := 2) cB_len rfl rfl rfl Tryd.isAgg30 Tryd.sizeOf30 (by first | assumption | omega) | exact ld_is (ds := [_, _, _]) Tryd.isAgg30 Tryd.sizeOf30 rfl rfl)) ?_
    refine OD.store (k := 2) (cs' := [_, _, _]) (wants_plain rfl) rfl rfl ot rfl rfl ot rfl rfl Tryd.sizeOf30 rfl rfl rfl ?_
    refine OD.still (wants_plain rfl) rfl (still_as rfl opd_const) ?_
    refine OD.still (wants_plain rfl) rfl (still_as rfl opd_const) ?_
    refine OD.wk (Wk.as_ (n := 93) (l' := [(2, _), (3, _), (4, _)]) (S' := [⟨b6, 87, 4, [_, _, _, _]⟩, ⟨b5, 30, 3, [_, _, _]⟩, ⟨b2, 30, 3, [_, _, _]⟩]) rfl rfl ⟨lk, lk, lk, trivial⟩) ?_
    refine OD.nil ?_
    refine CD.wk (Wk.giveNil (t := 3) (sz := 1) lk) ?_
    refine CD.ret ?_
    refine ⟨.inr rfl, _, [], List.nil_sublist _, ret_three Tryd.results31 (res_cells (k := 2) (ds := [_, _, _]) (Nat.le_of_ble_eq_true rfl) lk rfl rfl Tryd.isAgg30 Tryd.sizeOf30 rfl rfl) (res_tmp (Nat.le_of_ble_eq_true rfl) lk) (res_tmp (Nat.le_of_ble_eq_true rfl) lk), ?_⟩
    rw [hres]
    first | exact ⟨rfl, rfl⟩ | (rw [hneed]; exact ⟨rfl, rfl⟩) | (refine ⟨?_, rfl⟩; simp only [hneed, oneD, bytesL, bv, cV]; simp; done)
  · have hc0' := hc0
    (try simp only [decide_eq_true_eq, decide_eq_false_iff_not, beq_iff_eq, bne_iff_ne, Bool.not_eq_true', Bool.not_eq_false', Bool.not_eq_true, Bool.not_eq_false, beq_eq_false_iff_ne, ne_eq, bne_eq_false_iff_eq, Bool.and_eq_true, Bool.or_eq_true, Bool.not_not, Bool.and_eq_false_iff, Bool.or_eq_false_iff, Int.not_lt, Int.not_le] at hc0')
    have h3 : ¬ k.toNat > 3 := by omega
    refine CD.seq ?_
    refine CD.region ?_
    refine OD.still (wants_plain rfl) rfl (still_mv rfl ot) ?_
    refine OD.still (wants_plain rfl) rfl (still_r1 (mk := fun y => .call { callee := .builtin .len, args := #[y], argTypes := #[25] }) rfl ot (by first | exact len_list rfl Tryd.runUnderlying25 | exact len_row rfl Tryd.runUnderlying25)) ?_
    refine OD.still (wants_plain rfl) rfl (still_r1 (mk := fun y => Op.fieldAddr 30 y 0) rfl ot (by first | exact fa_ptr (off := 0) Tryd.runUnderlying30 rfl Tryd.sizeOf3 rfl | exact fa_iptr (off := 0) Tryd.runUnderlying30 rfl Tryd.sizeOf3 rfl)) ?_
    refine OD.still (wants_plain rfl) rfl (still_r1 (mk := Op.load 3) rfl ot (by first | exact ld_blk (k := 1) rfl rfl Tryd.isAgg3 rfl | exact ld_fm cB_len Tryd.isAgg3 (by first | assumption | omega) rfl | exact ld_fm0 cB_len Tryd.isAgg3 (by first | assumption | omega) rfl | exact ld_row (k := 0) cB_len rfl rfl rfl Tryd.isAgg3 (by first | assumption | omega) rfl | exact ld_row0 (k := 0) cB_len rfl rfl rfl Tryd.isAgg3 (by first | assumption | omega) rfl | exact ld_row (k := 1) cB_len rfl rfl rfl Tryd.isAgg3 (by first | assumption | omega) rfl | exact ld_row0 (k := 1) cB_len rfl rfl rfl Tryd.isAgg3 (by first | assumption | omega) rfl | exact ld_row (k := 2) cB_len rfl rfl rfl Tryd.isAgg3 (by first | assumption | omega) rfl | exact ld_row0 (k := 2) cB_len rfl rfl rfl Tryd.isAgg3 (by first | assumption | omega) rfl | exact ld_i Tryd.isAgg3 rfl)) ?_
    refine OD.still (wants_plain rfl) rfl (still_r2 (mk := Op.indexAddr 87) rfl ot ot (by first | exact ix_arr Tryd.runUnderlying87 Tryd.sizeOf3 rfl (by first | assumption | omega) | exact ix_arr (j := Int.toNat _) Tryd.runUnderlying87 Tryd.sizeOf3 (Int.toNat_of_nonneg (by omega)).symm (by omega))) ?_
    refine OD.still (wants_plain rfl) rfl (still_r1 (mk := Op.load 3) rfl ot (by first | exact ld_blk (k := 0) rfl rfl Tryd.isAgg3 (need_at k h3) | exact ld_blk (k := 1) rfl rfl Tryd.isAgg3 (need_at k h3))) ?_
    refine OD.still (wants_plain rfl) rfl (still_bin rfl ot ot bin_lss) ?_
    refine OD.still (wants_plain rfl) rfl (still_as rfl ot) ?_
    refine OD.wk (Wk.as_ (n := 93) (l' := [(0, _), (2, _), (5, _), (6, _), (26, _)]) (S' := [⟨b6, 87, 4, [_, _, _, _]⟩, ⟨b5, 30, 3, [_, _, _]⟩, ⟨b2, 30, 3, [_, _, _]⟩]) rfl rfl ⟨lk, lk, lk, lk, lk, trivial⟩) ?_
    refine OD.nil ?_
    refine CD.cond ot (fun hc1 => ?_) (fun hc1 => ?_)
    · have hc1' := hc1
      (try simp only [decide_eq_true_eq, decide_eq_false_iff_not, beq_iff_eq, bne_iff_ne, Bool.not_eq_true', Bool.not_eq_false', Bool.not_eq_true, Bool.not_eq_false, beq_eq_false_iff_ne, ne_eq, bne_eq_false_iff_eq, Bool.and_eq_true, Bool.or_eq_true, Bool.not_not, Bool.and_eq_false_iff, Bool.or_eq_false_iff, Int.not_lt, Int.not_le] at hc1')
      have hres : oneR k r = (bv k 0 ⟨#[]⟩, [], 7) := by unfold oneR; rw [if_neg h3, if_pos (by simp at hc1; omega)]
      refine CD.seq ?_
      refine CD.region ?_
      refine OD.still (wants_plain rfl) rfl (still_r1 (mk := Op.load 30) rfl ot (by first | exact ld_blks (k := 1) (ds := [_, _, _]) rfl rfl Tryd.isAgg30 Tryd.sizeOf30 rfl rfl | exact ld_fms cB_len Tryd.isAgg30 Tryd.sizeOf30 (by first | assumption | omega) | exact ld_rows (k := 0) cB_len rfl rfl rfl Tryd.isAgg30 Tryd.sizeOf30 (by first | assumption | omega) | exact ld_rows (k := 1) cB_len rfl rfl rfl Tryd.isAgg30 Tryd.sizeOf30 (by first | assumption | omega) | exact ld_rows (k := 2) cB_len rfl rfl rfl Tryd.isAgg30 Tryd.sizeOf30 (by first | assumption | omega) | exact ld_is (ds := [_, _, _]) Tryd.isAgg30 Tryd.sizeOf30 rfl rfl)) ?_
      refine OD.store (k := 2) (cs' := [_, _, _]) (wants_plain rfl) rfl rfl ot rfl rfl ot rfl rfl Tryd.sizeOf30 rfl rfl rfl ?_
      refine OD.still (wants_plain rfl) rfl (still_as rfl opd_const) ?_
      refine OD.still (wants_plain rfl) rfl (still_as rfl opd_const) ?_
      refine OD.wk (Wk.as_ (n := 93) (l' := [(2, _), (3, _), (4, _)]) (S' := [⟨b6, 87, 4, [_, _, _, _]⟩, ⟨b5, 30, 3, [_, _, _]⟩, ⟨b2, 30, 3, [_, _, _]⟩]) rfl rfl ⟨lk, lk, lk, trivial⟩) ?_
      refine OD.nil ?_
      refine CD.wk (Wk.giveNil (t := 3) (sz := 1) lk) ?_
      refine CD.ret ?_
      refine ⟨.inr rfl, _, [], List.nil_sublist _, ret_three Tryd.results31 (res_cells (k := 2) (ds := [_, _, _]) (Nat.le_of_ble_eq_true rfl) lk rfl rfl Tryd.isAgg30 Tryd.sizeOf30 rfl rfl) (res_tmp (Nat.le_of_ble_eq_true rfl) lk) (res_tmp (Nat.le_of_ble_eq_true rfl) lk), ?_⟩
      rw [hres]
      first | exact ⟨rfl, rfl⟩ | (rw [hneed]; exact ⟨rfl, rfl⟩) | (refine ⟨?_, rfl⟩; simp only [hneed, oneD, bytesL, bv, cV]; simp; done)
    · have hc1' := hc1
      (try simp only [decide_eq_true_eq, decide_eq_false_iff_not, beq_iff_eq, bne_iff_ne, Bool.not_eq_true', Bool.not_eq_false', Bool.not_eq_true, Bool.not_eq_false, beq_eq_false_iff_ne, ne_eq, bne_eq_false_iff_eq, Bool.and_eq_true, Bool.or_eq_true, Bool.not_not, Bool.and_eq_false_iff, Bool.or_eq_false_iff, Int.not_lt, Int.not_le] at hc1')
      have h7 : ¬ r.length < needF k := by simp at hc1; omega
      refine CD.skip ?_
      refine CD.seq ?_
      refine CD.seq ?_
      refine CD.region ?_
      refine OD.still (wants_plain rfl) rfl (still_r1 (mk := fun y => Op.fieldAddr 30 y 0) rfl ot (by first | exact fa_ptr (off := 0) Tryd.runUnderlying30 rfl Tryd.sizeOf3 rfl | exact fa_iptr (off := 0) Tryd.runUnderlying30 rfl Tryd.sizeOf3 rfl)) ?_
      refine OD.still (wants_plain rfl) rfl (still_r1 (mk := Op.load 3) rfl ot (by first | exact ld_blk (k := 1) rfl rfl Tryd.isAgg3 rfl | exact ld_fm cB_len Tryd.isAgg3 (by first | assumption | omega) rfl | exact ld_fm0 cB_len Tryd.isAgg3 (by first | assumption | omega) rfl | exact ld_row (k := 0) cB_len rfl rfl rfl Tryd.isAgg3 (by first | assumption | omega) rfl | exact ld_row0 (k := 0) cB_len rfl rfl rfl Tryd.isAgg3 (by first | assumption | omega) rfl | exact ld_row (k := 1) cB_len rfl rfl rfl Tryd.isAgg3 (by first | assumption | omega) rfl | exact ld_row0 (k := 1) cB_len rfl rfl rfl Tryd.isAgg3 (by first | assumption | omega) rfl | exact ld_row (k := 2) cB_len rfl rfl rfl Tryd.isAgg3 (by first | assumption | omega) rfl | exact ld_row0 (k := 2) cB_len rfl rfl rfl Tryd.isAgg3 (by first | assumption | omega) rfl | exact ld_i Tryd.isAgg3 rfl)) ?_
      refine OD.wk (Wk.as_ (n := 93) (l' := [(0, _), (2, _), (5, _), (6, _), (36, _)]) (S' := [⟨b6, 87, 4, [_, _, _, _]⟩, ⟨b5, 30, 3, [_, _, _]⟩, ⟨b2, 30, 3, [_, _, _]⟩]) rfl rfl ⟨lk, lk, lk, lk, lk, trivial⟩) ?_
      refine OD.nil ?_
      refine CD.block ?_
      refine CD.seq ?_
      refine CD.region ?_
      refine OD.still (wants_plain rfl) rfl (still_bin rfl ot opd_const bin_eql) ?_
      refine OD.still (wants_plain rfl) rfl (still_as rfl ot) ?_
      refine OD.wk (Wk.as_ (n := 93) (l' := [(0, _), (2, _), (5, _), (6, _), (36, _), (37, _)]) (S' := [⟨b6, 87, 4, [_, _, _, _]⟩, ⟨b5, 30, 3, [_, _, _]⟩, ⟨b2, 30, 3, [_, _, _]⟩]) rfl rfl ⟨lk, lk, lk, lk, lk, lk, trivial⟩) ?_
      refine OD.nil ?_
      refine CD.cond ot (fun hc2 => ?_) (fun hc2 => ?_)
      · have hc2' := hc2
        (try simp only [decide_eq_true_eq, decide_eq_false_iff_not, beq_iff_eq, bne_iff_ne, Bool.not_eq_true', Bool.not_eq_false', Bool.not_eq_true, Bool.not_eq_false, beq_eq_false_iff_ne, ne_eq, bne_eq_false_iff_eq, Bool.and_eq_true, Bool.or_eq_true, Bool.not_not, Bool.and_eq_false_iff, Bool.or_eq_false_iff, Int.not_lt, Int.not_le] at hc2')
        have hk1 : k = 1 := by simp at hc2; exact UInt8.toNat_inj.1 (by show k.toNat = 1; omega)
        have hne : 1 ≤ r.length := by have := need_of hk1; have : needF 1 = 1 := rfl; omega
        obtain ⟨c, q, rfl⟩ : ∃ c q, r = c :: q := by cases r with | nil => simp at hne | cons c q => exact ⟨c, q, rfl⟩
        have hcl := c.toNat_lt
        have hcons2 : (List.drop 1 (k :: c :: q)).length = q.length + 1 := rfl
        refine CD.seq ?_
        refine CD.region ?_
        refine OD.still (wants_plain rfl) rfl (still_mv rfl ot) ?_
        refine OD.still (wants_plain rfl) rfl (still_r2 (mk := Op.indexAddr 25) rfl ot opd_const (by first | exact ix_list (j := 0) Tryd.runUnderlying25 Tryd.sizeOf5 rfl (by first | omega | decide) | exact ix_row (j := 0) Tryd.runUnderlying25 Tryd.sizeOf5 rfl (by first | omega | decide))) ?_
        refine OD.still (wants_plain rfl) rfl (still_r1 (mk := Op.load 5) rfl ot (ld_i Tryd.isAgg5 rfl)) ?_
        refine OD.still (wants_plain rfl) rfl (still_conv rfl ot (conv_int Tryd.runUnderlying5 Tryd.runUnderlying3 (wrap_i64 (by omega) (by omega)))) ?_
        refine OD.still (wants_plain rfl) rfl (still_r1 (mk := fun y => Op.fieldAddr 30 y 1) rfl ot (by first | exact fa_ptr (off := 1) Tryd.runUnderlying30 rfl Tryd.sizeOf3 rfl | exact fa_iptr (off := 1) Tryd.runUnderlying30 rfl Tryd.sizeOf3 rfl)) ?_
        refine OD.store (k := 1) (cs' := [_, _, _]) (wants_plain rfl) rfl rfl ot rfl rfl ot rfl rfl Tryd.sizeOf3 rfl rfl rfl ?_
        refine OD.wk (Wk.as_ (n := 93) (l' := [(0, _), (2, _), (5, _), (6, _)]) (S' := [⟨b6, 87, 4, [_, _, _, _]⟩, ⟨b5, 30, 3, [_, _, _]⟩, ⟨b2, 30, 3, [_, _, _]⟩]) rfl rfl ⟨lk, lk, lk, lk, trivial⟩) ?_
        refine OD.nil ?_
        refine CD.seq ?_
        refine CD.region ?_
        refine OD.still (wants_plain rfl) rfl (still_r1 (mk := fun y => Op.fieldAddr 30 y 1) rfl ot (by first | exact fa_ptr (off := 1) Tryd.runUnderlying30 rfl Tryd.sizeOf3 rfl | exact fa_iptr (off := 1) Tryd.runUnderlying30 rfl Tryd.sizeOf3 rfl)) ?_
        refine OD.still (wants_plain rfl) rfl (still_r1 (mk := Op.load 3) rfl ot (by first | exact ld_blk (k := 1) rfl rfl Tryd.isAgg3 rfl | exact ld_fm cB_len Tryd.isAgg3 (by first | assumption | omega) rfl | exact ld_fm0 cB_len Tryd.isAgg3 (by first | assumption | omega) rfl | exact ld_row (k := 0) cB_len rfl rfl rfl Tryd.isAgg3 (by first | assumption | omega) rfl | exact ld_row0 (k := 0) cB_len rfl rfl rfl Tryd.isAgg3 (by first | assumption | omega) rfl | exact ld_row (k := 1) cB_len rfl rfl rfl Tryd.isAgg3 (by first | assumption | omega) rfl | exact ld_row0 (k := 1) cB_len rfl rfl rfl Tryd.isAgg3 (by first | assumption | omega) rfl | exact ld_row (k := 2) cB_len rfl rfl rfl Tryd.isAgg3 (by first | assumption | omega) rfl | exact ld_row0 (k := 2) cB_len rfl rfl rfl Tryd.isAgg3 (by first | assumption | omega) rfl | exact ld_i Tryd.isAgg3 rfl)) ?_
        refine OD.still (wants_plain rfl) rfl (still_bin rfl ot opd_const bin_gtr) ?_
        refine OD.wk (Wk.as_ (n := 93) (l' := [(0, _), (2, _), (5, _), (6, _), (46, _)]) (S' := [⟨b6, 87, 4, [_, _, _, _]⟩, ⟨b5, 30, 3, [_, _, _]⟩, ⟨b2, 30, 3, [_, _, _]⟩]) rfl rfl ⟨lk, lk, lk, lk, lk, trivial⟩) ?_
        refine OD.nil ?_
        refine CD.cond ot (fun hc3 => ?_) (fun hc3 => ?_)
        · have hc3' := hc3
          (try simp only [decide_eq_true_eq, decide_eq_false_iff_not, beq_iff_eq, bne_iff_ne, Bool.not_eq_true', Bool.not_eq_false', Bool.not_eq_true, Bool.not_eq_false, beq_eq_false_iff_ne, ne_eq, bne_eq_false_iff_eq, Bool.and_eq_true, Bool.or_eq_true, Bool.not_not, Bool.and_eq_false_iff, Bool.or_eq_false_iff, Int.not_lt, Int.not_le] at hc3')
          have hres : oneR k (c :: q) = (bv k c.toNat ⟨#[]⟩, [], 6) := by unfold oneR; rw [if_neg h3, if_neg h7]; rw [if_pos hk1]; exact if_pos (by show c.toNat > 1; omega)
          refine CD.seq ?_
          refine CD.region ?_
          refine OD.still (wants_plain rfl) rfl (still_r1 (mk := Op.load 30) rfl ot (by first | exact ld_blks (k := 1) (ds := [_, _, _]) rfl rfl Tryd.isAgg30 Tryd.sizeOf30 rfl rfl | exact ld_fms cB_len Tryd.isAgg30 Tryd.sizeOf30 (by first | assumption | omega) | exact ld_rows (k := 0) cB_len rfl rfl rfl Tryd.isAgg30 Tryd.sizeOf30 (by first | assumption | omega) | exact ld_rows (k := 1) cB_len rfl rfl rfl Tryd.isAgg30 Tryd.sizeOf30 (by first | assumption | omega) | exact ld_rows (k := 2) cB_len rfl rfl rfl Tryd.isAgg30 Tryd.sizeOf30 (by first | assumption | omega) | exact ld_is (ds := [_, _, _]) Tryd.isAgg30 Tryd.sizeOf30 rfl rfl)) ?_
          refine OD.store (k := 2) (cs' := [_, _, _]) (wants_plain rfl) rfl rfl ot rfl rfl ot rfl rfl Tryd.sizeOf30 rfl rfl rfl ?_
          refine OD.still (wants_plain rfl) rfl (still_as rfl opd_const) ?_
          refine OD.still (wants_plain rfl) rfl (still_as rfl opd_const) ?_
          refine OD.wk (Wk.as_ (n := 93) (l' := [(2, _), (3, _), (4, _)]) (S' := [⟨b6, 87, 4, [_, _, _, _]⟩, ⟨b5, 30, 3, [_, _, _]⟩, ⟨b2, 30, 3, [_, _, _]⟩]) rfl rfl ⟨lk, lk, lk, trivial⟩) ?_
          refine OD.nil ?_
          refine CD.wk (Wk.giveNil (t := 3) (sz := 1) lk) ?_
          refine CD.ret ?_
          refine ⟨.inr rfl, _, [], List.nil_sublist _, ret_three Tryd.results31 (res_cells (k := 2) (ds := [_, _, _]) (Nat.le_of_ble_eq_true rfl) lk rfl rfl Tryd.isAgg30 Tryd.sizeOf30 rfl rfl) (res_tmp (Nat.le_of_ble_eq_true rfl) lk) (res_tmp (Nat.le_of_ble_eq_true rfl) lk), ?_⟩
          rw [hres]
          first | exact ⟨rfl, rfl⟩ | (rw [hneed]; exact ⟨rfl, rfl⟩) | (refine ⟨?_, rfl⟩; simp only [hneed, oneD, bytesL, bv, cV]; simp; done)
        · have hc3' := hc3
          (try simp only [decide_eq_true_eq, decide_eq_false_iff_not, beq_iff_eq, bne_iff_ne, Bool.not_eq_true', Bool.not_eq_false', Bool.not_eq_true, Bool.not_eq_false, beq_eq_false_iff_ne, ne_eq, bne_eq_false_iff_eq, Bool.and_eq_true, Bool.or_eq_true, Bool.not_not, Bool.and_eq_false_iff, Bool.or_eq_false_iff, Int.not_lt, Int.not_le] at hc3')
          have hres : oneR k (c :: q) = (bv k c.toNat ⟨#[]⟩, q, 0) := by unfold oneR; rw [if_neg h3, if_neg h7]; rw [if_pos hk1]; exact if_neg (by show ¬ c.toNat > 1; omega)
          have hneed : needF k = 1 := need_of hk1
          refine CD.skip ?_
          refine CD.seq ?_
          refine CD.draw (bks (List.eraseIdx _ 2)) (by kernel_rfl) (fun _ h => (List.Sublist.map _ (List.eraseIdx_sublist _ 2)).subset h) ?_
          refine AD0.take (i := 0) rfl (by kernel_rfl) (by kernel_rfl) (by kernel_rfl) (by repeat (first | exact NP.body | apply NP.then | apply NP.cut | apply NP.inBlock | apply NP.round)) (wants_plain rfl) rfl (still_r1 (mk := Op.load 30) rfl ot (by first | exact ld_blks (k := 1) (ds := [_, _, _]) rfl rfl Tryd.isAgg30 Tryd.sizeOf30 rfl rfl | exact ld_fms cB_len Tryd.isAgg30 Tryd.sizeOf30 (by first | assumption | omega) | exact ld_rows (k := 0) cB_len rfl rfl rfl Tryd.isAgg30 Tryd.sizeOf30 (by first | assumption | omega) | exact ld_rows (k := 1) cB_len rfl rfl rfl Tryd.isAgg30 Tryd.sizeOf30 (by first | assumption | omega) | exact ld_rows (k := 2) cB_len rfl rfl rfl Tryd.isAgg30 Tryd.sizeOf30 (by first | assumption | omega) | exact ld_is (ds := [_, _, _]) Tryd.isAgg30 Tryd.sizeOf30 rfl rfl)) (by first | exact trivial | exact safe_blk (k0 := 0) rfl rfl | exact safe_blk (k0 := 1) rfl rfl) ?_
          refine AD0.take (i := 1) rfl (by kernel_rfl) (by kernel_rfl) (by kernel_rfl) (by repeat (first | exact NP.body | apply NP.then | apply NP.cut | apply NP.inBlock | apply NP.round)) (wants_plain rfl) rfl (still_mv rfl ot) (by exact trivial) ?_
          refine AD0.take (i := 2) rfl (by kernel_rfl) (by kernel_rfl) (by kernel_rfl) (by repeat (first | exact NP.body | apply NP.then | apply NP.cut | apply NP.inBlock | apply NP.round)) (wants_plain rfl) rfl (still_r1 (mk := fun y => Op.fieldAddr 30 y 0) rfl ot (by first | exact fa_ptr (off := 0) Tryd.runUnderlying30 rfl Tryd.sizeOf3 rfl | exact fa_iptr (off := 0) Tryd.runUnderlying30 rfl Tryd.sizeOf3 rfl)) (by exact trivial) ?_
          refine AD0.take (i := 3) rfl (by kernel_rfl) (by kernel_rfl) (by kernel_rfl) (by repeat (first | exact NP.body | apply NP.then | apply NP.cut | apply NP.inBlock | apply NP.round)) (wants_plain rfl) rfl (still_r1 (mk := Op.load 3) rfl ot (by first | exact ld_blk (k := 1) rfl rfl Tryd.isAgg3 rfl | exact ld_fm cB_len Tryd.isAgg3 (by first | assumption | omega) rfl | exact ld_fm0 cB_len Tryd.isAgg3 (by first | assumption | omega) rfl | exact ld_row (k := 0) cB_len rfl rfl rfl Tryd.isAgg3 (by first | assumption | omega) rfl | exact ld_row0 (k := 0) cB_len rfl rfl rfl Tryd.isAgg3 (by first | assumption | omega) rfl | exact ld_row (k := 1) cB_len rfl rfl rfl Tryd.isAgg3 (by first | assumption | omega) rfl | exact ld_row0 (k := 1) cB_len rfl rfl rfl Tryd.isAgg3 (by first | assumption | omega) rfl | exact ld_row (k := 2) cB_len rfl rfl rfl Tryd.isAgg3 (by first | assumption | omega) rfl | exact ld_row0 (k := 2) cB_len rfl rfl rfl Tryd.isAgg3 (by first | assumption | omega) rfl | exact ld_i Tryd.isAgg3 rfl)) (by first | exact trivial | exact safe_blk (k0 := 0) rfl rfl | exact safe_blk (k0 := 1) rfl rfl) ?_
          refine AD0.take (i := 4) rfl (by kernel_rfl) (by kernel_rfl) (by kernel_rfl) (by repeat (first | exact NP.body | apply NP.then | apply NP.cut | apply NP.inBlock | apply NP.round)) (wants_plain rfl) rfl (still_r2 (mk := Op.indexAddr 87) rfl ot ot (by first | exact ix_arr Tryd.runUnderlying87 Tryd.sizeOf3 rfl (by first | assumption | omega) | exact ix_arr (j := Int.toNat _) Tryd.runUnderlying87 Tryd.sizeOf3 (Int.toNat_of_nonneg (by omega)).symm (by omega))) (by exact trivial) ?_
          refine AD0.take (i := 5) rfl (by kernel_rfl) (by kernel_rfl) (by kernel_rfl) (by repeat (first | exact NP.body | apply NP.then | apply NP.cut | apply NP.inBlock | apply NP.round)) (wants_plain rfl) rfl (still_r1 (mk := Op.load 3) rfl ot (by first | exact ld_blk (k := 0) rfl rfl Tryd.isAgg3 (need_at k h3) | exact ld_blk (k := 1) rfl rfl Tryd.isAgg3 (need_at k h3))) (by first | exact trivial | exact safe_blk (k0 := 0) rfl rfl | exact safe_blk (k0 := 1) rfl rfl) ?_
          refine AD0.take (i := 6) rfl (by kernel_rfl) (by kernel_rfl) (by kernel_rfl) (by repeat (first | exact NP.body | apply NP.then | apply NP.cut | apply NP.inBlock | apply NP.round)) (wants_plain rfl) rfl (still_rs (l := (needF k)) rfl ot ⟨_, ot⟩ trivial (by first | exact sl_tail rfl cB_len (fun h => by cases h) Tryd.runUnderlying25 Tryd.sizeOf5 (by omega) | exact sl_row (fun _ => rfl) Tryd.runUnderlying25 Tryd.sizeOf5 (by omega) | exact sl_list (fun h => by cases h) (fun _ => rfl) Tryd.runUnderlying25 Tryd.sizeOf5 (by omega) (by omega))) (by exact trivial) ?_
          refine AD0.later rfl ?_
          refine AD.one (i := 7) (by kernel_rfl) ?_
          refine AStep.store (k := 2) (cs' := [_, _, _]) rfl (wants_plain rfl) rfl rfl ot rfl rfl ot rfl rfl Tryd.sizeOf30 rfl rfl rfl (by intro b hb; simp [bks, St.put] at hb ⊢; try first | exact hb | simp [hb] | (rcases hb with hb | hb <;> simp [hb]) | (rcases hb with hb | hb | hb <;> simp [hb])) ?_
          refine AD.take (i := 8) rfl (by kernel_rfl) (by kernel_rfl) (by kernel_rfl) (by repeat (first | exact NP.body | apply NP.then | apply NP.cut | apply NP.inBlock | apply NP.round)) (wants_plain rfl) rfl (still_as rfl ot) (by exact trivial) (by intro h; cases h) ?_
          refine AD.take (i := 9) rfl (by kernel_rfl) (by kernel_rfl) (by kernel_rfl) (by repeat (first | exact NP.body | apply NP.then | apply NP.cut | apply NP.inBlock | apply NP.round)) (wants_plain rfl) rfl (still_as rfl opd_const) (by exact trivial) (by intro h; cases h) ?_
          refine AD.wk (y := ⟨93, [(2, _), (3, _), (4, _)], [⟨b6, 87, 4, [_, _, _, _]⟩, ⟨b5, 30, 3, [_, _, _]⟩, ⟨b2, 30, 3, [_, _, _]⟩]⟩) (Wk.as_ rfl rfl ⟨lk, lk, lk, trivial⟩) rfl ?_
          refine AD.done (by kernel_rfl) ?_
          refine CD.ret ?_
          refine ⟨.inr rfl, _, [], List.nil_sublist _, ret_three Tryd.results31 (res_cells (k := 2) (ds := [_, _, _]) (Nat.le_of_ble_eq_true rfl) lk rfl rfl Tryd.isAgg30 Tryd.sizeOf30 rfl rfl) (res_tmp (Nat.le_of_ble_eq_true rfl) lk) (res_tmp (Nat.le_of_ble_eq_true rfl) lk), ?_⟩
          rw [hres]
          first | exact ⟨rfl, rfl⟩ | (rw [hneed]; exact ⟨rfl, rfl⟩) | (refine ⟨?_, rfl⟩; simp only [hneed, oneD, bytesL, bv, cV]; simp; done)
      · have hc2' := hc2
        (try simp only [decide_eq_true_eq, decide_eq_false_iff_not, beq_iff_eq, bne_iff_ne, Bool.not_eq_true', Bool.not_eq_false', Bool.not_eq_true, Bool.not_eq_false, beq_eq_false_iff_ne, ne_eq, bne_eq_false_iff_eq, Bool.and_eq_true, Bool.or_eq_true, Bool.not_not, Bool.and_eq_false_iff, Bool.or_eq_false_iff, Int.not_lt, Int.not_le] at hc2')
        have hk1 : ¬ k = 1 := by intro e; rw [e] at hc2; simp at hc2
        refine CD.seq ?_
        refine CD.region ?_
        refine OD.still (wants_plain rfl) rfl (still_bin rfl ot opd_const bin_eql) ?_
        refine OD.still (wants_plain rfl) rfl (still_as rfl ot) ?_
        refine OD.wk (Wk.as_ (n := 93) (l' := [(0, _), (2, _), (5, _), (6, _), (36, _), (48, _)]) (S' := [⟨b6, 87, 4, [_, _, _, _]⟩, ⟨b5, 30, 3, [_, _, _]⟩, ⟨b2, 30, 3, [_, _, _]⟩]) rfl rfl ⟨lk, lk, lk, lk, lk, lk, trivial⟩) ?_
        refine OD.nil ?_
        refine CD.cond ot (fun hc4 => ?_) (fun hc4 => ?_)
        · have hc4' := hc4
          (try simp only [decide_eq_true_eq, decide_eq_false_iff_not, beq_iff_eq, bne_iff_ne, Bool.not_eq_true', Bool.not_eq_false', Bool.not_eq_true, Bool.not_eq_false, beq_eq_false_iff_ne, ne_eq, bne_eq_false_iff_eq, Bool.and_eq_true, Bool.or_eq_true, Bool.not_not, Bool.and_eq_false_iff, Bool.or_eq_false_iff, Int.not_lt, Int.not_le] at hc4')
          have hk2 : k = 2 := by simp at hc4; exact UInt8.toNat_inj.1 (by show k.toNat = 2; omega)
          have hneed : needF k = 8 := need_of hk2
          have hr8 : (r.take 8).length = 8 := by rw [List.length_take]; omega
          have hul := unbe_lt 8 (r.take 8) hr8
          have hres : oneR k r = (bv k ((unbe (r.take 8) : Int) - 9223372036854775808) ⟨#[]⟩, r.drop 8, 0) := by unfold oneR; rw [if_neg h3, if_neg h7]; rw [if_neg hk1, if_pos hk2]
          refine CD.seq ?_
          refine CD.region ?_
          refine OD.still (wants_plain rfl) rfl (still_as rfl opd_const) ?_
          refine OD.wk (Wk.as_ (n := 93) (l' := [(0, _), (2, _), (5, _), (6, _), (7, _)]) (S' := [⟨b6, 87, 4, [_, _, _, _]⟩, ⟨b5, 30, 3, [_, _, _]⟩, ⟨b2, 30, 3, [_, _, _]⟩]) rfl rfl ⟨lk, lk, lk, lk, lk, trivial⟩) ?_
          refine OD.nil ?_
          refine CD.seq ?_
          refine CD.seq ?_
          refine CD.region ?_
          refine OD.still (wants_plain rfl) rfl (still_mv rfl ot) ?_
          refine OD.still (wants_plain rfl) rfl (still_rs (l := 0) (h := 8) rfl ot trivial ⟨_, opd_const⟩ (by first | exact sl_head cB_len (fun h => by cases h) Tryd.runUnderlying25 Tryd.sizeOf5 (by omega) | exact sl_row (fun h => by cases h) Tryd.runUnderlying25 Tryd.sizeOf5 (by omega) | exact sl_list (fun _ => rfl) (fun h => by cases h) Tryd.runUnderlying25 Tryd.sizeOf5 (by omega) (by omega))) ?_
          refine OD.still (wants_plain rfl) rfl (still_r1 (mk := fun y => .call { callee := .builtin .len, args := #[y], argTypes := #[25] }) rfl ot (by first | exact len_list rfl Tryd.runUnderlying25 | exact len_row rfl Tryd.runUnderlying25)) ?_
          refine OD.still (wants_plain rfl) rfl (still_mv rfl opd_const) ?_
          refine OD.wk (Wk.as_ (n := 93) (l' := [(0, _), (2, _), (5, _), (6, _), (7, _), (51, _), (52, _), (53, _)]) (S' := [⟨b6, 87, 4, [_, _, _, _]⟩, ⟨b5, 30, 3, [_, _, _]⟩, ⟨b2, 30, 3, [_, _, _]⟩]) rfl rfl ⟨lk, lk, lk, lk, lk, lk, lk, lk, trivial⟩) ?_
          refine OD.nil ?_
          refine CD.block ?_
          refine CD.wk (Wk.asS (n := 93) (l' := [(0, .list 1 (r.flatMap cB) r.length), (2, .v (.pointer (some ⟨b2, 0, none⟩))), (5, .v (.pointer (some ⟨b5, 0, none⟩))), (6, .v (.pointer (some ⟨b6, 0, none⟩))), (7, .v (.int .u64 ((unbe ((r.take 8).take (0)) : Nat) : Int))), (51, .list 1 ((r.take 8).flatMap cB) (r.take 8).length), (52, .v (.int .i64 ((r.take 8).length : Nat))), (53, .v (.int .i64 ((0) : Nat)))]) (S' := [⟨b6, 87, 4, [.v (.int .i64 0), .v (.int .i64 1), .v (.int .i64 8), .v (.int .i64 2)]⟩, ⟨b5, 30, 3, [.v (.int .i64 (k.toNat : Int)), .v (.int .i64 0), .v (.string ⟨#[]⟩)]⟩, ⟨b2, 30, 3, [.v (.int .i64 0), .v (.int .i64 0), .v (.string ⟨#[]⟩)]⟩]) rfl (by repeat (first | exact List.Sublist.refl _ | apply List.Sublist.cons)) ⟨(by (repeat (first | exact look_hit | (apply look_at; focus (first | rfl | (congr 2; omega) | (rw [unbe_step hjl]; done) | (simp; done))) | (apply look_miss; focus rfl))); done), (by (repeat (first | exact look_hit | (apply look_at; focus (first | rfl | (congr 2; omega) | (rw [unbe_step hjl]; done) | (simp; done))) | (apply look_miss; focus rfl))); done), (by (repeat (first | exact look_hit | (apply look_at; focus (first | rfl | (congr 2; omega) | (rw [unbe_step hjl]; done) | (simp; done))) | (apply look_miss; focus rfl))); done), (by (repeat (first | exact look_hit | (apply look_at; focus (first | rfl | (congr 2; omega) | (rw [unbe_step hjl]; done) | (simp; done))) | (apply look_miss; focus rfl))); done), (by (repeat (first | exact look_hit | (apply look_at; focus (first | rfl | (congr 2; omega) | (rw [unbe_step hjl]; done) | (simp; done))) | (apply look_miss; focus rfl))); done), (by (repeat (first | exact look_hit | (apply look_at; focus (first | rfl | (congr 2; omega) | (rw [unbe_step hjl]; done) | (simp; done))) | (apply look_miss; focus rfl))); done), (by (repeat (first | exact look_hit | (apply look_at; focus (first | rfl | (congr 2; omega) | (rw [unbe_step hjl]; done) | (simp; done))) | (apply look_miss; focus rfl))); done), (by (repeat (first | exact look_hit | (apply look_at; focus (first | rfl | (congr 2; omega) | (rw [unbe_step hjl]; done) | (simp; done))) | (apply look_miss; focus rfl))); done), trivial⟩) (CD.loop (fun (j : Nat) y__ => (j ≤ 8) ∧ y__ = (⟨93, [(0, .list 1 (r.flatMap cB) r.length), (2, .v (.pointer (some ⟨b2, 0, none⟩))), (5, .v (.pointer (some ⟨b5, 0, none⟩))), (6, .v (.pointer (some ⟨b6, 0, none⟩))), (7, .v (.int .u64 ((unbe ((r.take 8).take j) : Nat) : Int))), (51, .list 1 ((r.take 8).flatMap cB) (r.take 8).length), (52, .v (.int .i64 ((r.take 8).length : Nat))), (53, .v (.int .i64 (j : Nat)))], [⟨b6, 87, 4, [.v (.int .i64 0), .v (.int .i64 1), .v (.int .i64 8), .v (.int .i64 2)]⟩, ⟨b5, 30, 3, [.v (.int .i64 (k.toNat : Int)), .v (.int .i64 0), .v (.string ⟨#[]⟩)]⟩, ⟨b2, 30, 3, [.v (.int .i64 0), .v (.int .i64 0), .v (.string ⟨#[]⟩)]⟩]⟩ : St)) (fun (j : Nat) => 8 - j) 0 ⟨(by decide), rfl⟩ ?_)
          rintro j _ ⟨hj8, rfl⟩
          refine CD.seq ?_
          refine CD.region ?_
          refine OD.still (wants_plain rfl) rfl (still_bin rfl ot ot bin_lss) ?_
          refine OD.wk (Wk.as_ (n := 93) (l' := [(0, _), (2, _), (5, _), (6, _), (7, _), (51, _), (52, _), (53, _), (54, _)]) (S' := [⟨b6, 87, 4, [_, _, _, _]⟩, ⟨b5, 30, 3, [_, _, _]⟩, ⟨b2, 30, 3, [_, _, _]⟩]) rfl rfl ⟨lk, lk, lk, lk, lk, lk, lk, lk, lk, trivial⟩) ?_
          refine OD.nil ?_
          refine CD.seq ?_
          refine CD.cond ot (fun hc5 => ?_) (fun hc5 => ?_)
          · have hc5' := hc5
            (try simp only [decide_eq_true_eq, decide_eq_false_iff_not, beq_iff_eq, bne_iff_ne, Bool.not_eq_true', Bool.not_eq_false', Bool.not_eq_true, Bool.not_eq_false, beq_eq_false_iff_ne, ne_eq, bne_eq_false_iff_eq, Bool.and_eq_true, Bool.or_eq_true, Bool.not_not, Bool.and_eq_false_iff, Bool.or_eq_false_iff, Int.not_lt, Int.not_le] at hc5')
            have hjl : j < (r.take 8).length := by rw [hr8]; omega
            have huj := unbe_lt j ((r.take 8).take j) (by rw [List.length_take]; omega)
            have hp7 : 256 ^ j ≤ 256 ^ 7 := Nat.pow_le_pow_right (by decide) (by omega)
            have hu7 : unbe ((r.take 8).take j) < 72057594037927936 := Nat.lt_of_lt_of_le huj (Nat.le_trans hp7 (by decide))
            refine CD.skip ?_
            refine CD.seq ?_
            refine CD.block ?_
            refine CD.seq ?_
            refine CD.region ?_
            refine OD.still (wants_plain rfl) rfl (still_r2 (mk := Op.indexAddr 25) rfl ot ot (by first | exact ix_list Tryd.runUnderlying25 Tryd.sizeOf5 rfl (by first | assumption | omega) | exact ix_list (j := Int.toNat _) Tryd.runUnderlying25 Tryd.sizeOf5 (Int.toNat_of_nonneg (by omega)).symm (by omega) | exact ix_row Tryd.runUnderlying25 Tryd.sizeOf5 rfl (by first | assumption | omega) | exact ix_row (j := Int.toNat _) Tryd.runUnderlying25 Tryd.sizeOf5 (Int.toNat_of_nonneg (by omega)).symm (by omega))) ?_
            refine OD.still (wants_plain rfl) rfl (still_r1 (mk := Op.load 5) rfl ot (by first | exact ld_blk (k := 0) rfl rfl Tryd.isAgg5 rfl | exact ld_blk (k := 1) rfl rfl Tryd.isAgg5 rfl | exact ld_blk (k := 2) rfl rfl Tryd.isAgg5 rfl | exact ld_fm cB_len Tryd.isAgg5 (by first | assumption | omega) rfl | exact ld_fm0 cB_len Tryd.isAgg5 (by first | assumption | omega) rfl | exact ld_row (k := 0) cB_len rfl rfl rfl Tryd.isAgg5 (by first | assumption | omega) rfl | exact ld_row0 (k := 0) cB_len rfl rfl rfl Tryd.isAgg5 (by first | assumption | omega) rfl | exact ld_row (k := 1) cB_len rfl rfl rfl Tryd.isAgg5 (by first | assumption | omega) rfl | exact ld_row0 (k := 1) cB_len rfl rfl rfl Tryd.isAgg5 (by first | assumption | omega) rfl | exact ld_row (k := 2) cB_len rfl rfl rfl Tryd.isAgg5 (by first | assumption | omega) rfl | exact ld_row0 (k := 2) cB_len rfl rfl rfl Tryd.isAgg5 (by first | assumption | omega) rfl | exact ld_i Tryd.isAgg5 rfl)) ?_
            refine OD.still (wants_plain rfl) rfl (still_as rfl ot) ?_
            refine OD.wk (Wk.as_ (n := 93) (l' := [(0, _), (2, _), (5, _), (6, _), (7, _), (9, _), (51, _), (52, _), (53, _)]) (S' := [⟨b6, 87, 4, [_, _, _, _]⟩, ⟨b5, 30, 3, [_, _, _]⟩, ⟨b2, 30, 3, [_, _, _]⟩]) rfl rfl ⟨lk, lk, lk, lk, lk, lk, lk, lk, lk, trivial⟩) ?_
            refine OD.nil ?_
            refine CD.region ?_
            refine OD.still (wants_plain rfl) rfl (still_mv rfl ot) ?_
            refine OD.still (wants_plain rfl) rfl (still_bin (r := .int .u64 ((unbe ((r.take 8).take j) : Int) * 256)) rfl ot opd_const (bin_shl (by decide) (shl_byte hu7))) ?_
            refine OD.still (wants_plain rfl) rfl (still_mv rfl ot) ?_
            refine OD.still (wants_plain rfl) rfl (still_conv (r := .int .u64 (((r.take 8)[j].toNat : Nat) : Int)) rfl ot (conv_int Tryd.runUnderlying5 Tryd.runUnderlying68 (by rw [u64_wrap]; have := (r.take 8)[j].toNat_lt; omega))) ?_
            refine OD.still (wants_plain rfl) rfl (still_bin (r := .int .u64 ((unbe ((r.take 8).take j) * 256 + (r.take 8)[j].toNat : Nat) : Int)) rfl ot ot (bin_or (or_byte hu7))) ?_
            refine OD.still (wants_plain rfl) rfl (still_as rfl ot) ?_
            refine OD.wk (Wk.as_ (n := 93) (l' := [(0, _), (2, _), (5, _), (6, _), (7, _), (51, _), (52, _), (53, _)]) (S' := [⟨b6, 87, 4, [_, _, _, _]⟩, ⟨b5, 30, 3, [_, _, _]⟩, ⟨b2, 30, 3, [_, _, _]⟩]) rfl rfl ⟨lk, lk, lk, lk, lk, lk, lk, lk, trivial⟩) ?_
            refine OD.nil ?_
            refine CD.region ?_
            refine OD.still (wants_plain rfl) rfl (still_bin rfl ot opd_const (bin_add (wrap_i64 (by omega) (by omega)))) ?_
            refine OD.still (wants_plain rfl) rfl (still_mv rfl ot) ?_
            refine OD.wk (Wk.as_ (n := 93) (l' := [(0, _), (2, _), (5, _), (6, _), (7, _), (51, _), (52, _), (53, _)]) (S' := [⟨b6, 87, 4, [_, _, _, _]⟩, ⟨b5, 30, 3, [_, _, _]⟩, ⟨b2, 30, 3, [_, _, _]⟩]) rfl rfl ⟨lk, lk, lk, lk, lk, lk, lk, lk, trivial⟩) ?_
            refine OD.nil ?_
            refine ⟨(j + 1), ⟨93, [(0, .list 1 (r.flatMap cB) r.length), (2, .v (.pointer (some ⟨b2, 0, none⟩))), (5, .v (.pointer (some ⟨b5, 0, none⟩))), (6, .v (.pointer (some ⟨b6, 0, none⟩))), (7, .v (.int .u64 ((unbe ((r.take 8).take ((j + 1))) : Nat) : Int))), (51, .list 1 ((r.take 8).flatMap cB) (r.take 8).length), (52, .v (.int .i64 ((r.take 8).length : Nat))), (53, .v (.int .i64 (((j + 1)) : Nat)))], [⟨b6, 87, 4, [.v (.int .i64 0), .v (.int .i64 1), .v (.int .i64 8), .v (.int .i64 2)]⟩, ⟨b5, 30, 3, [.v (.int .i64 (k.toNat : Int)), .v (.int .i64 0), .v (.string ⟨#[]⟩)]⟩, ⟨b2, 30, 3, [.v (.int .i64 0), .v (.int .i64 0), .v (.string ⟨#[]⟩)]⟩]⟩, ?_, Wk.asS (n := 93) rfl (by repeat (first | exact List.Sublist.refl _ | apply List.Sublist.cons)) ⟨(by (repeat (first | exact look_hit | (apply look_at; focus (first | rfl | (congr 2; omega) | (rw [unbe_step hjl]; done) | (simp; done))) | (apply look_miss; focus rfl))); done), (by (repeat (first | exact look_hit | (apply look_at; focus (first | rfl | (congr 2; omega) | (rw [unbe_step hjl]; done) | (simp; done))) | (apply look_miss; focus rfl))); done), (by (repeat (first | exact look_hit | (apply look_at; focus (first | rfl | (congr 2; omega) | (rw [unbe_step hjl]; done) | (simp; done))) | (apply look_miss; focus rfl))); done), (by (repeat (first | exact look_hit | (apply look_at; focus (first | rfl | (congr 2; omega) | (rw [unbe_step hjl]; done) | (simp; done))) | (apply look_miss; focus rfl))); done), (by (repeat (first | exact look_hit | (apply look_at; focus (first | rfl | (congr 2; omega) | (rw [unbe_step hjl]; done) | (simp; done))) | (apply look_miss; focus rfl))); done), (by (repeat (first | exact look_hit | (apply look_at; focus (first | rfl | (congr 2; omega) | (rw [unbe_step hjl]; done) | (simp; done))) | (apply look_miss; focus rfl))); done), (by (repeat (first | exact look_hit | (apply look_at; focus (first | rfl | (congr 2; omega) | (rw [unbe_step hjl]; done) | (simp; done))) | (apply look_miss; focus rfl))); done), (by (repeat (first | exact look_hit | (apply look_at; focus (first | rfl | (congr 2; omega) | (rw [unbe_step hjl]; done) | (simp; done))) | (apply look_miss; focus rfl))); done), trivial⟩, (by omega), rfl⟩
            first | omega | (simp only []; omega)
          · have hc5' := hc5
            (try simp only [decide_eq_true_eq, decide_eq_false_iff_not, beq_iff_eq, bne_iff_ne, Bool.not_eq_true', Bool.not_eq_false', Bool.not_eq_true, Bool.not_eq_false, beq_eq_false_iff_ne, ne_eq, bne_eq_false_iff_eq, Bool.and_eq_true, Bool.or_eq_true, Bool.not_not, Bool.and_eq_false_iff, Bool.or_eq_false_iff, Int.not_lt, Int.not_le] at hc5')
            have hfull : (r.take 8).take j = r.take 8 := List.take_of_length_le (by simp at hc5; omega)
            have hul2 : unbe ((r.take 8).take j) < 18446744073709551616 := by rw [hfull]; exact Nat.lt_of_lt_of_le hul (by decide)
            refine CD.exit ?_
            refine CD.region ?_
            refine OD.still (wants_plain rfl) rfl (still_mv rfl ot) ?_
            refine OD.still (wants_plain rfl) rfl (still_bin rfl ot opd_const (bin_xor (xor_u64 hul2))) ?_
            refine OD.still (wants_plain rfl) rfl (still_conv (r := .int .i64 ((unbe (r.take 8) : Int) - 9223372036854775808)) rfl ot (conv_int Tryd.runUnderlying68 Tryd.runUnderlying3 (by rw [i64_top hul2, hfull]))) ?_
            refine OD.still (wants_plain rfl) rfl (still_r1 (mk := fun y => Op.fieldAddr 30 y 1) rfl ot (by first | exact fa_ptr (off := 1) Tryd.runUnderlying30 rfl Tryd.sizeOf3 rfl | exact fa_iptr (off := 1) Tryd.runUnderlying30 rfl Tryd.sizeOf3 rfl)) ?_
            refine OD.store (k := 1) (cs' := [_, _, _]) (wants_plain rfl) rfl rfl ot rfl rfl ot rfl rfl Tryd.sizeOf3 rfl rfl rfl ?_
            refine OD.wk (Wk.as_ (n := 93) (l' := [(0, _), (2, _), (5, _), (6, _)]) (S' := [⟨b6, 87, 4, [_, _, _, _]⟩, ⟨b5, 30, 3, [_, _, _]⟩, ⟨b2, 30, 3, [_, _, _]⟩]) rfl rfl ⟨lk, lk, lk, lk, trivial⟩) ?_
            refine OD.nil ?_
            refine CD.seq ?_
            refine CD.draw (bks (List.eraseIdx _ 2)) (by kernel_rfl) (fun _ h => (List.Sublist.map _ (List.eraseIdx_sublist _ 2)).subset h) ?_
            refine AD0.take (i := 0) rfl (by kernel_rfl) (by kernel_rfl) (by kernel_rfl) (by repeat (first | exact NP.body | apply NP.then | apply NP.cut | apply NP.inBlock | apply NP.round)) (wants_plain rfl) rfl (still_r1 (mk := Op.load 30) rfl ot (by first | exact ld_blks (k := 1) (ds := [_, _, _]) rfl rfl Tryd.isAgg30 Tryd.sizeOf30 rfl rfl | exact ld_fms cB_len Tryd.isAgg30 Tryd.sizeOf30 (by first | assumption | omega) | exact ld_rows (k := 0) cB_len rfl rfl rfl Tryd.isAgg30 Tryd.sizeOf30 (by first | assumption | omega) | exact ld_rows (k := 1) cB_len rfl rfl rfl Tryd.isAgg30 Tryd.sizeOf30 (by first | assumption | omega) | exact ld_rows (k := 2) cB_len rfl rfl rfl Tryd.isAgg30 Tryd.sizeOf30 (by first | assumption | omega) | exact ld_is (ds := [_, _, _]) Tryd.isAgg30 Tryd.sizeOf30 rfl rfl)) (by first | exact trivial | exact safe_blk (k0 := 0) rfl rfl | exact safe_blk (k0 := 1) rfl rfl) ?_
            refine AD0.take (i := 1) rfl (by kernel_rfl) (by kernel_rfl) (by kernel_rfl) (by repeat (first | exact NP.body | apply NP.then | apply NP.cut | apply NP.inBlock | apply NP.round)) (wants_plain rfl) rfl (still_mv rfl ot) (by exact trivial) ?_
            refine AD0.take (i := 2) rfl (by kernel_rfl) (by kernel_rfl) (by kernel_rfl) (by repeat (first | exact NP.body | apply NP.then | apply NP.cut | apply NP.inBlock | apply NP.round)) (wants_plain rfl) rfl (still_r1 (mk := fun y => Op.fieldAddr 30 y 0) rfl ot (by first | exact fa_ptr (off := 0) Tryd.runUnderlying30 rfl Tryd.sizeOf3 rfl | exact fa_iptr (off := 0) Tryd.runUnderlying30 rfl Tryd.sizeOf3 rfl)) (by exact trivial) ?_
            refine AD0.take (i := 3) rfl (by kernel_rfl) (by kernel_rfl) (by kernel_rfl) (by repeat (first | exact NP.body | apply NP.then | apply NP.cut | apply NP.inBlock | apply NP.round)) (wants_plain rfl) rfl (still_r1 (mk := Op.load 3) rfl ot (by first | exact ld_blk (k := 1) rfl rfl Tryd.isAgg3 rfl | exact ld_fm cB_len Tryd.isAgg3 (by first | assumption | omega) rfl | exact ld_fm0 cB_len Tryd.isAgg3 (by first | assumption | omega) rfl | exact ld_row (k := 0) cB_len rfl rfl rfl Tryd.isAgg3 (by first | assumption | omega) rfl | exact ld_row0 (k := 0) cB_len rfl rfl rfl Tryd.isAgg3 (by first | assumption | omega) rfl | exact ld_row (k := 1) cB_len rfl rfl rfl Tryd.isAgg3 (by first | assumption | omega) rfl | exact ld_row0 (k := 1) cB_len rfl rfl rfl Tryd.isAgg3 (by first | assumption | omega) rfl | exact ld_row (k := 2) cB_len rfl rfl rfl Tryd.isAgg3 (by first | assumption | omega) rfl | exact ld_row0 (k := 2) cB_len rfl rfl rfl Tryd.isAgg3 (by first | assumption | omega) rfl | exact ld_i Tryd.isAgg3 rfl)) (by first | exact trivial | exact safe_blk (k0 := 0) rfl rfl | exact safe_blk (k0 := 1) rfl rfl) ?_
            refine AD0.take (i := 4) rfl (by kernel_rfl) (by kernel_rfl) (by kernel_rfl) (by repeat (first | exact NP.body | apply NP.then | apply NP.cut | apply NP.inBlock | apply NP.round)) (wants_plain rfl) rfl (still_r2 (mk := Op.indexAddr 87) rfl ot ot (by first | exact ix_arr Tryd.runUnderlying87 Tryd.sizeOf3 rfl (by first | assumption | omega) | exact ix_arr (j := Int.toNat _) Tryd.runUnderlying87 Tryd.sizeOf3 (Int.toNat_of_nonneg (by omega)).symm (by omega))) (by exact trivial) ?_
            refine AD0.take (i := 5) rfl (by kernel_rfl) (by kernel_rfl) (by kernel_rfl) (by repeat (first | exact NP.body | apply NP.then | apply NP.cut | apply NP.inBlock | apply NP.round)) (wants_plain rfl) rfl (still_r1 (mk := Op.load 3) rfl ot (by first | exact ld_blk (k := 0) rfl rfl Tryd.isAgg3 (need_at k h3) | exact ld_blk (k := 1) rfl rfl Tryd.isAgg3 (need_at k h3))) (by first | exact trivial | exact safe_blk (k0 := 0) rfl rfl | exact safe_blk (k0 := 1) rfl rfl) ?_
            refine AD0.take (i := 6) rfl (by kernel_rfl) (by kernel_rfl) (by kernel_rfl) (by repeat (first | exact NP.body | apply NP.then | apply NP.cut | apply NP.inBlock | apply NP.round)) (wants_plain rfl) rfl (still_rs (l := (needF k)) rfl ot ⟨_, ot⟩ trivial (by first | exact sl_tail rfl cB_len (fun h => by cases h) Tryd.runUnderlying25 Tryd.sizeOf5 (by omega) | exact sl_row (fun _ => rfl) Tryd.runUnderlying25 Tryd.sizeOf5 (by omega) | exact sl_list (fun h => by cases h) (fun _ => rfl) Tryd.runUnderlying25 Tryd.sizeOf5 (by omega) (by omega))) (by exact trivial) ?_
            refine AD0.later rfl ?_
            refine AD.one (i := 7) (by kernel_rfl) ?_
            refine AStep.store (k := 2) (cs' := [_, _, _]) rfl (wants_plain rfl) rfl rfl ot rfl rfl ot rfl rfl Tryd.sizeOf30 rfl rfl rfl (by intro b hb; simp [bks, St.put] at hb ⊢; try first | exact hb | simp [hb] | (rcases hb with hb | hb <;> simp [hb]) | (rcases hb with hb | hb | hb <;> simp [hb])) ?_
            refine AD.take (i := 8) rfl (by kernel_rfl) (by kernel_rfl) (by kernel_rfl) (by repeat (first | exact NP.body | apply NP.then | apply NP.cut | apply NP.inBlock | apply NP.round)) (wants_plain rfl) rfl (still_as rfl ot) (by exact trivial) (by intro h; cases h) ?_
            refine AD.take (i := 9) rfl (by kernel_rfl) (by kernel_rfl) (by kernel_rfl) (by repeat (first | exact NP.body | apply NP.then | apply NP.cut | apply NP.inBlock | apply NP.round)) (wants_plain rfl) rfl (still_as rfl opd_const) (by exact trivial) (by intro h; cases h) ?_
            refine AD.wk (y := ⟨93, [(2, _), (3, _), (4, _)], [⟨b6, 87, 4, [_, _, _, _]⟩, ⟨b5, 30, 3, [_, _, _]⟩, ⟨b2, 30, 3, [_, _, _]⟩]⟩) (Wk.as_ rfl rfl ⟨lk, lk, lk, trivial⟩) rfl ?_
            refine AD.done (by kernel_rfl) ?_
            refine CD.ret ?_
            refine ⟨.inr rfl, _, [], List.nil_sublist _, ret_three Tryd.results31 (res_cells (k := 2) (ds := [_, _, _]) (Nat.le_of_ble_eq_true rfl) lk rfl rfl Tryd.isAgg30 Tryd.sizeOf30 rfl rfl) (res_tmp (Nat.le_of_ble_eq_true rfl) lk) (res_tmp (Nat.le_of_ble_eq_true rfl) lk), ?_⟩
            rw [hres]
            first | exact ⟨rfl, rfl⟩ | (rw [hneed]; exact ⟨rfl, rfl⟩) | (refine ⟨?_, rfl⟩; simp only [hneed, oneD, bytesL, bv, cV]; simp; done)
        · have hc4' := hc4
          (try simp only [decide_eq_true_eq, decide_eq_false_iff_not, beq_iff_eq, bne_iff_ne, Bool.not_eq_true', Bool.not_eq_false', Bool.not_eq_true, Bool.not_eq_false, beq_eq_false_iff_ne, ne_eq, bne_eq_false_iff_eq, Bool.and_eq_true, Bool.or_eq_true, Bool.not_not, Bool.and_eq_false_iff, Bool.or_eq_false_iff, Int.not_lt, Int.not_le] at hc4')
          have hk2 : ¬ k = 2 := by intro e; rw [e] at hc4; simp at hc4
          refine CD.seq ?_
          refine CD.region ?_
          refine OD.still (wants_plain rfl) rfl (still_bin rfl ot opd_const bin_eql) ?_
          refine OD.still (wants_plain rfl) rfl (still_as rfl ot) ?_
          refine OD.wk (Wk.as_ (n := 93) (l' := [(0, _), (2, _), (5, _), (6, _), (67, _)]) (S' := [⟨b6, 87, 4, [_, _, _, _]⟩, ⟨b5, 30, 3, [_, _, _]⟩, ⟨b2, 30, 3, [_, _, _]⟩]) rfl rfl ⟨lk, lk, lk, lk, lk, trivial⟩) ?_
          refine OD.nil ?_
          refine CD.cond ot (fun hc6 => ?_) (fun hc6 => ?_)
          · have hc6' := hc6
            (try simp only [decide_eq_true_eq, decide_eq_false_iff_not, beq_iff_eq, bne_iff_ne, Bool.not_eq_true', Bool.not_eq_false', Bool.not_eq_true, Bool.not_eq_false, beq_eq_false_iff_ne, ne_eq, bne_eq_false_iff_eq, Bool.and_eq_true, Bool.or_eq_true, Bool.not_not, Bool.and_eq_false_iff, Bool.or_eq_false_iff, Int.not_lt, Int.not_le] at hc6')
            have hk3 : k = 3 := by simp at hc6; exact UInt8.toNat_inj.1 (by show k.toNat = 3; omega)
            obtain ⟨ts, tr, tb, htx⟩ : ∃ ts tr tb, textR r = (ts, tr, tb) := ⟨_, _, _, rfl⟩
            have htv := text_vp (G := G) r (by omega)
            rw [htx] at htv
            unfold textD bytesL at htv
            refine CD.seq ?_
            refine CD.region ?_
            refine OD.still (wants_plain rfl) rfl (still_mv rfl ot) ?_
            refine OD.callP (wants_plain rfl) rfl rfl rfl Tryd.call44 (htv) ⟨ot, trivial⟩ ?_
            refine OD.still (wants_plain rfl) rfl (still_mv rfl ot) ?_
            refine OD.still (wants_plain rfl) rfl (still_extract rfl ot rfl) ?_
            refine OD.still (wants_plain rfl) rfl (still_extract rfl ot rfl) ?_
            refine OD.still (wants_plain rfl) rfl (still_extract rfl ot rfl) ?_
            refine OD.still (wants_plain rfl) rfl (still_as rfl ot) ?_
            refine OD.still (wants_plain rfl) rfl (still_as rfl ot) ?_
            refine OD.still (wants_plain rfl) rfl (still_as rfl ot) ?_
            refine OD.wk (Wk.as_ (n := 93) (l' := [(2, _), (5, _), (10, _), (11, _), (12, _)]) (S' := [⟨b6, 87, 4, [_, _, _, _]⟩, ⟨b5, 30, 3, [_, _, _]⟩, ⟨b2, 30, 3, [_, _, _]⟩]) rfl rfl ⟨lk, lk, lk, lk, lk, trivial⟩) ?_
            refine OD.nil ?_
            refine CD.seq ?_
            refine CD.seq ?_
            refine CD.region ?_
            refine OD.still (wants_plain rfl) rfl (still_mv rfl ot) ?_
            refine OD.still (wants_plain rfl) rfl (still_un rfl ot un_not) ?_
            refine OD.wk (Wk.as_ (n := 93) (l' := [(2, _), (5, _), (10, _), (11, _), (76, _)]) (S' := [⟨b6, 87, 4, [_, _, _, _]⟩, ⟨b5, 30, 3, [_, _, _]⟩, ⟨b2, 30, 3, [_, _, _]⟩]) rfl rfl ⟨lk, lk, lk, lk, lk, trivial⟩) ?_
            refine OD.nil ?_
            refine CD.cond ot (fun hc7 => ?_) (fun hc7 => ?_)
            · have hc7' := hc7
              (try simp only [decide_eq_true_eq, decide_eq_false_iff_not, beq_iff_eq, bne_iff_ne, Bool.not_eq_true', Bool.not_eq_false', Bool.not_eq_true, Bool.not_eq_false, beq_eq_false_iff_ne, ne_eq, bne_eq_false_iff_eq, Bool.and_eq_true, Bool.or_eq_true, Bool.not_not, Bool.and_eq_false_iff, Bool.or_eq_false_iff, Int.not_lt, Int.not_le] at hc7')
              have htb : tb = false := by simpa using hc7
              have hres : oneR k r = (bv k 0 ⟨#[]⟩, [], 6) := by unfold oneR; rw [if_neg h3, if_neg h7]; rw [if_neg hk1, if_neg hk2, if_pos hk3]; unfold textR at htx; split at htx; exact absurd (by rw [htb] at htx; exact htx) (by simp); rename_i hn; rw [hn]
              refine CD.seq ?_
              refine CD.region ?_
              refine OD.still (wants_plain rfl) rfl (still_r1 (mk := Op.load 30) rfl ot (by first | exact ld_blks (k := 1) (ds := [_, _, _]) rfl rfl Tryd.isAgg30 Tryd.sizeOf30 rfl rfl | exact ld_fms cB_len Tryd.isAgg30 Tryd.sizeOf30 (by first | assumption | omega) | exact ld_rows (k := 0) cB_len rfl rfl rfl Tryd.isAgg30 Tryd.sizeOf30 (by first | assumption | omega) | exact ld_rows (k := 1) cB_len rfl rfl rfl Tryd.isAgg30 Tryd.sizeOf30 (by first | assumption | omega) | exact ld_rows (k := 2) cB_len rfl rfl rfl Tryd.isAgg30 Tryd.sizeOf30 (by first | assumption | omega) | exact ld_is (ds := [_, _, _]) Tryd.isAgg30 Tryd.sizeOf30 rfl rfl)) ?_
              refine OD.store (k := 2) (cs' := [_, _, _]) (wants_plain rfl) rfl rfl ot rfl rfl ot rfl rfl Tryd.sizeOf30 rfl rfl rfl ?_
              refine OD.still (wants_plain rfl) rfl (still_as rfl opd_const) ?_
              refine OD.still (wants_plain rfl) rfl (still_as rfl opd_const) ?_
              refine OD.wk (Wk.as_ (n := 93) (l' := [(2, _), (3, _), (4, _)]) (S' := [⟨b6, 87, 4, [_, _, _, _]⟩, ⟨b5, 30, 3, [_, _, _]⟩, ⟨b2, 30, 3, [_, _, _]⟩]) rfl rfl ⟨lk, lk, lk, trivial⟩) ?_
              refine OD.nil ?_
              refine CD.wk (Wk.giveNil (t := 3) (sz := 1) lk) ?_
              refine CD.ret ?_
              refine ⟨.inr rfl, _, [], List.nil_sublist _, ret_three Tryd.results31 (res_cells (k := 2) (ds := [_, _, _]) (Nat.le_of_ble_eq_true rfl) lk rfl rfl Tryd.isAgg30 Tryd.sizeOf30 rfl rfl) (res_tmp (Nat.le_of_ble_eq_true rfl) lk) (res_tmp (Nat.le_of_ble_eq_true rfl) lk), ?_⟩
              rw [hres]
              first | exact ⟨rfl, rfl⟩ | (rw [hneed]; exact ⟨rfl, rfl⟩) | (refine ⟨?_, rfl⟩; simp only [hneed, oneD, bytesL, bv, cV]; simp; done)
            · have hc7' := hc7
              (try simp only [decide_eq_true_eq, decide_eq_false_iff_not, beq_iff_eq, bne_iff_ne, Bool.not_eq_true', Bool.not_eq_false', Bool.not_eq_true, Bool.not_eq_false, beq_eq_false_iff_ne, ne_eq, bne_eq_false_iff_eq, Bool.and_eq_true, Bool.or_eq_true, Bool.not_not, Bool.and_eq_false_iff, Bool.or_eq_false_iff, Int.not_lt, Int.not_le] at hc7')
              have htb : tb = true := by simpa using hc7
              obtain ⟨p, hp, hts, htr⟩ : ∃ p, textL r = some p ∧ ts = ⟨p.1.toArray⟩ ∧ tr = p.2 := by unfold textR at htx; split at htx; (rename_i p hp; exact ⟨p, hp, by simp_all, by simp_all⟩); (rw [htb] at htx; simp at htx)
              have hsz : ts.size = p.1.length := by rw [hts, ← str_len]
              refine CD.skip ?_
              refine CD.seq ?_
              refine CD.seq ?_
              refine CD.region ?_
              refine OD.still (wants_plain rfl) rfl (still_mv rfl ot) ?_
              refine OD.still (wants_plain rfl) rfl (still_slen rfl rfl ot Tryd.runUnderlying9) ?_
              refine OD.still (wants_plain rfl) rfl (still_bin rfl ot opd_const bin_gtr) ?_
              refine OD.wk (Wk.as_ (n := 93) (l' := [(2, _), (5, _), (10, _), (11, _), (80, _)]) (S' := [⟨b6, 87, 4, [_, _, _, _]⟩, ⟨b5, 30, 3, [_, _, _]⟩, ⟨b2, 30, 3, [_, _, _]⟩]) rfl rfl ⟨lk, lk, lk, lk, lk, trivial⟩) ?_
              refine OD.nil ?_
              refine CD.cond ot (fun hc8 => ?_) (fun hc8 => ?_)
              · have hc8' := hc8
                (try simp only [decide_eq_true_eq, decide_eq_false_iff_not, beq_iff_eq, bne_iff_ne, Bool.not_eq_true', Bool.not_eq_false', Bool.not_eq_true, Bool.not_eq_false, beq_eq_false_iff_ne, ne_eq, bne_eq_false_iff_eq, Bool.and_eq_true, Bool.or_eq_true, Bool.not_not, Bool.and_eq_false_iff, Bool.or_eq_false_iff, Int.not_lt, Int.not_le] at hc8')
                have hres : oneR k r = (bv k 0 ⟨#[]⟩, [], 1) := by unfold oneR; rw [if_neg h3, if_neg h7]; rw [if_neg hk1, if_neg hk2, if_pos hk3, hp]; exact if_pos (by show p.1.length > 20; omega)
                refine CD.seq ?_
                refine CD.region ?_
                refine OD.still (wants_plain rfl) rfl (still_r1 (mk := Op.load 30) rfl ot (by first | exact ld_blks (k := 1) (ds := [_, _, _]) rfl rfl Tryd.isAgg30 Tryd.sizeOf30 rfl rfl | exact ld_fms cB_len Tryd.isAgg30 Tryd.sizeOf30 (by first | assumption | omega) | exact ld_rows (k := 0) cB_len rfl rfl rfl Tryd.isAgg30 Tryd.sizeOf30 (by first | assumption | omega) | exact ld_rows (k := 1) cB_len rfl rfl rfl Tryd.isAgg30 Tryd.sizeOf30 (by first | assumption | omega) | exact ld_rows (k := 2) cB_len rfl rfl rfl Tryd.isAgg30 Tryd.sizeOf30 (by first | assumption | omega) | exact ld_is (ds := [_, _, _]) Tryd.isAgg30 Tryd.sizeOf30 rfl rfl)) ?_
                refine OD.store (k := 2) (cs' := [_, _, _]) (wants_plain rfl) rfl rfl ot rfl rfl ot rfl rfl Tryd.sizeOf30 rfl rfl rfl ?_
                refine OD.still (wants_plain rfl) rfl (still_as rfl opd_const) ?_
                refine OD.still (wants_plain rfl) rfl (still_as rfl opd_const) ?_
                refine OD.wk (Wk.as_ (n := 93) (l' := [(2, _), (3, _), (4, _)]) (S' := [⟨b6, 87, 4, [_, _, _, _]⟩, ⟨b5, 30, 3, [_, _, _]⟩, ⟨b2, 30, 3, [_, _, _]⟩]) rfl rfl ⟨lk, lk, lk, trivial⟩) ?_
                refine OD.nil ?_
                refine CD.wk (Wk.giveNil (t := 3) (sz := 1) lk) ?_
                refine CD.ret ?_
                refine ⟨.inr rfl, _, [], List.nil_sublist _, ret_three Tryd.results31 (res_cells (k := 2) (ds := [_, _, _]) (Nat.le_of_ble_eq_true rfl) lk rfl rfl Tryd.isAgg30 Tryd.sizeOf30 rfl rfl) (res_tmp (Nat.le_of_ble_eq_true rfl) lk) (res_tmp (Nat.le_of_ble_eq_true rfl) lk), ?_⟩
                rw [hres]
                first | exact ⟨rfl, rfl⟩ | (rw [hneed]; exact ⟨rfl, rfl⟩) | (refine ⟨?_, rfl⟩; simp only [hneed, oneD, bytesL, bv, cV]; simp; done)
              · have hc8' := hc8
                (try simp only [decide_eq_true_eq, decide_eq_false_iff_not, beq_iff_eq, bne_iff_ne, Bool.not_eq_true', Bool.not_eq_false', Bool.not_eq_true, Bool.not_eq_false, beq_eq_false_iff_ne, ne_eq, bne_eq_false_iff_eq, Bool.and_eq_true, Bool.or_eq_true, Bool.not_not, Bool.and_eq_false_iff, Bool.or_eq_false_iff, Int.not_lt, Int.not_le] at hc8')
                have hres : oneR k r = (bv k 0 ts, tr, 0) := by unfold oneR; rw [if_neg h3, if_neg h7]; rw [if_neg hk1, if_neg hk2, if_pos hk3, hp, hts, htr]; exact if_neg (by show ¬ p.1.length > 20; omega)
                refine CD.skip ?_
                refine CD.seq ?_
                refine CD.region ?_
                refine OD.still (wants_plain rfl) rfl (still_mv rfl ot) ?_
                refine OD.still (wants_plain rfl) rfl (still_r1 (mk := fun y => Op.fieldAddr 30 y 2) rfl ot (by first | exact fa_ptr (off := 2) Tryd.runUnderlying30 rfl Tryd.sizeOf9 rfl | exact fa_iptr (off := 2) Tryd.runUnderlying30 rfl Tryd.sizeOf9 rfl)) ?_
                refine OD.store (k := 1) (cs' := [_, _, _]) (wants_plain rfl) rfl rfl ot rfl rfl ot rfl rfl Tryd.sizeOf9 rfl rfl rfl ?_
                refine OD.wk (Wk.as_ (n := 93) (l' := [(2, _), (5, _), (11, _)]) (S' := [⟨b6, 87, 4, [_, _, _, _]⟩, ⟨b5, 30, 3, [_, _, _]⟩, ⟨b2, 30, 3, [_, _, _]⟩]) rfl rfl ⟨lk, lk, lk, trivial⟩) ?_
                refine OD.nil ?_
                refine CD.seq ?_
                refine CD.region ?_
                refine OD.still (wants_plain rfl) rfl (still_r1 (mk := Op.load 30) rfl ot (by first | exact ld_blks (k := 1) (ds := [_, _, _]) rfl rfl Tryd.isAgg30 Tryd.sizeOf30 rfl rfl | exact ld_fms cB_len Tryd.isAgg30 Tryd.sizeOf30 (by first | assumption | omega) | exact ld_rows (k := 0) cB_len rfl rfl rfl Tryd.isAgg30 Tryd.sizeOf30 (by first | assumption | omega) | exact ld_rows (k := 1) cB_len rfl rfl rfl Tryd.isAgg30 Tryd.sizeOf30 (by first | assumption | omega) | exact ld_rows (k := 2) cB_len rfl rfl rfl Tryd.isAgg30 Tryd.sizeOf30 (by first | assumption | omega) | exact ld_is (ds := [_, _, _]) Tryd.isAgg30 Tryd.sizeOf30 rfl rfl)) ?_
                refine OD.still (wants_plain rfl) rfl (still_mv rfl ot) ?_
                refine OD.store (k := 2) (cs' := [_, _, _]) (wants_plain rfl) rfl rfl ot rfl rfl ot rfl rfl Tryd.sizeOf30 rfl rfl rfl ?_
                refine OD.still (wants_plain rfl) rfl (still_as rfl ot) ?_
                refine OD.still (wants_plain rfl) rfl (still_as rfl opd_const) ?_
                refine OD.wk (Wk.as_ (n := 93) (l' := [(2, _), (3, _), (4, _)]) (S' := [⟨b6, 87, 4, [_, _, _, _]⟩, ⟨b5, 30, 3, [_, _, _]⟩, ⟨b2, 30, 3, [_, _, _]⟩]) rfl rfl ⟨lk, lk, lk, trivial⟩) ?_
                refine OD.nil ?_
                refine CD.ret ?_
                refine ⟨.inr rfl, _, [], List.nil_sublist _, ret_three Tryd.results31 (res_cells (k := 2) (ds := [_, _, _]) (Nat.le_of_ble_eq_true rfl) lk rfl rfl Tryd.isAgg30 Tryd.sizeOf30 rfl rfl) (res_tmp (Nat.le_of_ble_eq_true rfl) lk) (res_tmp (Nat.le_of_ble_eq_true rfl) lk), ?_⟩
                rw [hres]
                first | exact ⟨rfl, rfl⟩ | (rw [hneed]; exact ⟨rfl, rfl⟩) | (refine ⟨?_, rfl⟩; simp only [hneed, oneD, bytesL, bv, cV]; simp; done)
          · have hc6' := hc6
            (try simp only [decide_eq_true_eq, decide_eq_false_iff_not, beq_iff_eq, bne_iff_ne, Bool.not_eq_true', Bool.not_eq_false', Bool.not_eq_true, Bool.not_eq_false, beq_eq_false_iff_ne, ne_eq, bne_eq_false_iff_eq, Bool.and_eq_true, Bool.or_eq_true, Bool.not_not, Bool.and_eq_false_iff, Bool.or_eq_false_iff, Int.not_lt, Int.not_le] at hc6')
            have hk3 : ¬ k = 3 := by intro e; rw [e] at hc6; simp at hc6
            have hneed : needF k = 0 := by unfold needF; rw [if_pos (UInt8.toNat_inj.1 (by show k.toNat = 0; have h1 : k.toNat ≠ 1 := fun e => hk1 (UInt8.toNat_inj.1 e); have h2 : k.toNat ≠ 2 := fun e => hk2 (UInt8.toNat_inj.1 e); have h3 : k.toNat ≠ 3 := fun e => hk3 (UInt8.toNat_inj.1 e); omega))]
            have hres : oneR k r = (bv k 0 ⟨#[]⟩, r, 0) := by unfold oneR; rw [if_neg h3, if_neg h7]; rw [if_neg hk1, if_neg hk2, if_neg hk3]
            refine CD.skip ?_
            refine CD.seq ?_
            refine CD.draw (bks (List.eraseIdx _ 2)) (by kernel_rfl) (fun _ h => (List.Sublist.map _ (List.eraseIdx_sublist _ 2)).subset h) ?_
            refine AD0.take (i := 0) rfl (by kernel_rfl) (by kernel_rfl) (by kernel_rfl) (by repeat (first | exact NP.body | apply NP.then | apply NP.cut | apply NP.inBlock | apply NP.round)) (wants_plain rfl) rfl (still_r1 (mk := Op.load 30) rfl ot (by first | exact ld_blks (k := 1) (ds := [_, _, _]) rfl rfl Tryd.isAgg30 Tryd.sizeOf30 rfl rfl | exact ld_fms cB_len Tryd.isAgg30 Tryd.sizeOf30 (by first | assumption | omega) | exact ld_rows (k := 0) cB_len rfl rfl rfl Tryd.isAgg30 Tryd.sizeOf30 (by first | assumption | omega) | exact ld_rows (k := 1) cB_len rfl rfl rfl Tryd.isAgg30 Tryd.sizeOf30 (by first | assumption | omega) | exact ld_rows (k := 2) cB_len rfl rfl rfl Tryd.isAgg30 Tryd.sizeOf30 (by first | assumption | omega) | exact ld_is (ds := [_, _, _]) Tryd.isAgg30 Tryd.sizeOf30 rfl rfl)) (by first | exact trivial | exact safe_blk (k0 := 0) rfl rfl | exact safe_blk (k0 := 1) rfl rfl) ?_
            refine AD0.take (i := 1) rfl (by kernel_rfl) (by kernel_rfl) (by kernel_rfl) (by repeat (first | exact NP.body | apply NP.then | apply NP.cut | apply NP.inBlock | apply NP.round)) (wants_plain rfl) rfl (still_mv rfl ot) (by exact trivial) ?_
            refine AD0.take (i := 2) rfl (by kernel_rfl) (by kernel_rfl) (by kernel_rfl) (by repeat (first | exact NP.body | apply NP.then | apply NP.cut | apply NP.inBlock | apply NP.round)) (wants_plain rfl) rfl (still_r1 (mk := fun y => Op.fieldAddr 30 y 0) rfl ot (by first | exact fa_ptr (off := 0) Tryd.runUnderlying30 rfl Tryd.sizeOf3 rfl | exact fa_iptr (off := 0) Tryd.runUnderlying30 rfl Tryd.sizeOf3 rfl)) (by exact trivial) ?_
            refine AD0.take (i := 3) rfl (by kernel_rfl) (by kernel_rfl) (by kernel_rfl) (by repeat (first | exact NP.body | apply NP.then | apply NP.cut | apply NP.inBlock | apply NP.round)) (wants_plain rfl) rfl (still_r1 (mk := Op.load 3) rfl ot (by first | exact ld_blk (k := 1) rfl rfl Tryd.isAgg3 rfl | exact ld_fm cB_len Tryd.isAgg3 (by first | assumption | omega) rfl | exact ld_fm0 cB_len Tryd.isAgg3 (by first | assumption | omega) rfl | exact ld_row (k := 0) cB_len rfl rfl rfl Tryd.isAgg3 (by first | assumption | omega) rfl | exact ld_row0 (k := 0) cB_len rfl rfl rfl Tryd.isAgg3 (by first | assumption | omega) rfl | exact ld_row (k := 1) cB_len rfl rfl rfl Tryd.isAgg3 (by first | assumption | omega) rfl | exact ld_row0 (k := 1) cB_len rfl rfl rfl Tryd.isAgg3 (by first | assumption | omega) rfl | exact ld_row (k := 2) cB_len rfl rfl rfl Tryd.isAgg3 (by first | assumption | omega) rfl | exact ld_row0 (k := 2) cB_len rfl rfl rfl Tryd.isAgg3 (by first | assumption | omega) rfl | exact ld_i Tryd.isAgg3 rfl)) (by first | exact trivial | exact safe_blk (k0 := 0) rfl rfl | exact safe_blk (k0 := 1) rfl rfl) ?_
            refine AD0.take (i := 4) rfl (by kernel_rfl) (by kernel_rfl) (by kernel_rfl) (by repeat (first | exact NP.body | apply NP.then | apply NP.cut | apply NP.inBlock | apply NP.round)) (wants_plain rfl) rfl (still_r2 (mk := Op.indexAddr 87) rfl ot ot (by first | exact ix_arr Tryd.runUnderlying87 Tryd.sizeOf3 rfl (by first | assumption | omega) | exact ix_arr (j := Int.toNat _) Tryd.runUnderlying87 Tryd.sizeOf3 (Int.toNat_of_nonneg (by omega)).symm (by omega))) (by exact trivial) ?_
            refine AD0.take (i := 5) rfl (by kernel_rfl) (by kernel_rfl) (by kernel_rfl) (by repeat (first | exact NP.body | apply NP.then | apply NP.cut | apply NP.inBlock | apply NP.round)) (wants_plain rfl) rfl (still_r1 (mk := Op.load 3) rfl ot (by first | exact ld_blk (k := 0) rfl rfl Tryd.isAgg3 (need_at k h3) | exact ld_blk (k := 1) rfl rfl Tryd.isAgg3 (need_at k h3))) (by first | exact trivial | exact safe_blk (k0 := 0) rfl rfl | exact safe_blk (k0 := 1) rfl rfl) ?_
            refine AD0.take (i := 6) rfl (by kernel_rfl) (by kernel_rfl) (by kernel_rfl) (by repeat (first | exact NP.body | apply NP.then | apply NP.cut | apply NP.inBlock | apply NP.round)) (wants_plain rfl) rfl (still_rs (l := (needF k)) rfl ot ⟨_, ot⟩ trivial (by first | exact sl_tail rfl cB_len (fun h => by cases h) Tryd.runUnderlying25 Tryd.sizeOf5 (by omega) | exact sl_row (fun _ => rfl) Tryd.runUnderlying25 Tryd.sizeOf5 (by omega) | exact sl_list (fun h => by cases h) (fun _ => rfl) Tryd.runUnderlying25 Tryd.sizeOf5 (by omega) (by omega))) (by exact trivial) ?_
            refine AD0.later rfl ?_
            refine AD.one (i := 7) (by kernel_rfl) ?_
            refine AStep.store (k := 2) (cs' := [_, _, _]) rfl (wants_plain rfl) rfl rfl ot rfl rfl ot rfl rfl Tryd.sizeOf30 rfl rfl rfl (by intro b hb; simp [bks, St.put] at hb ⊢; try first | exact hb | simp [hb] | (rcases hb with hb | hb <;> simp [hb]) | (rcases hb with hb | hb | hb <;> simp [hb])) ?_
            refine AD.take (i := 8) rfl (by kernel_rfl) (by kernel_rfl) (by kernel_rfl) (by repeat (first | exact NP.body | apply NP.then | apply NP.cut | apply NP.inBlock | apply NP.round)) (wants_plain rfl) rfl (still_as rfl ot) (by exact trivial) (by intro h; cases h) ?_
            refine AD.take (i := 9) rfl (by kernel_rfl) (by kernel_rfl) (by kernel_rfl) (by repeat (first | exact NP.body | apply NP.then | apply NP.cut | apply NP.inBlock | apply NP.round)) (wants_plain rfl) rfl (still_as rfl opd_const) (by exact trivial) (by intro h; cases h) ?_
            refine AD.wk (y := ⟨93, [(2, _), (3, _), (4, _)], [⟨b6, 87, 4, [_, _, _, _]⟩, ⟨b5, 30, 3, [_, _, _]⟩, ⟨b2, 30, 3, [_, _, _]⟩]⟩) (Wk.as_ rfl rfl ⟨lk, lk, lk, trivial⟩) rfl ?_
            refine AD.done (by kernel_rfl) ?_
            refine CD.ret ?_
            refine ⟨.inr rfl, _, [], List.nil_sublist _, ret_three Tryd.results31 (res_cells (k := 2) (ds := [_, _, _]) (Nat.le_of_ble_eq_true rfl) lk rfl rfl Tryd.isAgg30 Tryd.sizeOf30 rfl rfl) (res_tmp (Nat.le_of_ble_eq_true rfl) lk) (res_tmp (Nat.le_of_ble_eq_true rfl) lk), ?_⟩
            rw [hres]
            first | exact ⟨rfl, rfl⟩ | (rw [hneed]; exact ⟨rfl, rfl⟩) | (refine ⟨?_, rfl⟩; simp only [hneed, oneD, bytesL, bv, cV]; simp; done)

theorem info30_Cd2 : (Tryd.prog.info? 30).map (fun i => (i.zero, i.size, i.bytes)) = some (some (.agg #[.int .i64 0, .int .i64 0, .string ⟨#[]⟩]), 3, 32) := by kernel_rfl

set_option maxHeartbeats 4000000 in
set_option maxRecDepth 100000 in
theorem dec_vp (b : List UInt8) (hb : b.length ≤ maxLen) : VP Tryd.prog G 16 [bytesL b] (decD (decR b)) := by
  refine VC.body Tryd.func16 rfl Tryd.ntmps16 (Nat.le_of_ble_eq_true rfl) fun X0 w0 S00 => ?_
  unfold bytesL
  have hmx : maxLen = 9223372036854775807 := rfl
  refine CD.seq ?_
  refine CD.region ?_
  refine OD.still (wants_plain rfl) rfl (still_as rfl opd_const) ?_
  refine OD.still (wants_plain rfl) rfl (still_as rfl opd_const) ?_
  refine OD.wk (Wk.as_ (n := 32) (l' := [(0, _)]) (S' := []) rfl rfl ⟨lk, trivial⟩) ?_
  refine OD.nil ?_
  refine CD.seq ?_
  refine CD.seq ?_
  refine CD.region ?_
  refine OD.still (wants_plain rfl) rfl (still_mv rfl ot) ?_
  refine OD.still (wants_plain rfl) rfl (still_r1 (mk := fun y => .call { callee := .builtin .len, args := #[y], argTypes := #[25] }) rfl ot (by first | exact len_list rfl Tryd.runUnderlying25 | exact len_row rfl Tryd.runUnderlying25)) ?_
  refine OD.still (wants_plain rfl) rfl (still_bin rfl ot opd_const bin_gtr) ?_
  refine OD.wk (Wk.as_ (n := 32) (l' := [(0, _), (10, _)]) (S' := []) rfl rfl ⟨lk, lk, trivial⟩) ?_
  refine OD.nil ?_
  refine CD.cond ot (fun hc0 => ?_) (fun hc0 => ?_)
  · have hc0' := hc0
    (try simp only [decide_eq_true_eq, decide_eq_false_iff_not, beq_iff_eq, bne_iff_ne, Bool.not_eq_true', Bool.not_eq_false', Bool.not_eq_true, Bool.not_eq_false, beq_eq_false_iff_ne, ne_eq, bne_eq_false_iff_eq, Bool.and_eq_true, Bool.or_eq_true, Bool.not_not, Bool.and_eq_false_iff, Bool.or_eq_false_iff, Int.not_lt, Int.not_le] at hc0')
    have hres : decR b = ([], 5) := if_pos (by omega)
    refine CD.seq ?_
    refine CD.region ?_
    refine OD.still (wants_plain rfl) rfl (still_as rfl opd_const) ?_
    refine OD.still (wants_plain rfl) rfl (still_as rfl opd_const) ?_
    refine OD.wk (Wk.as_ (n := 32) (l' := [(2, _), (3, _)]) (S' := []) rfl rfl ⟨lk, lk, trivial⟩) ?_
    refine OD.nil ?_
    refine CD.wk (Wk.giveNil (t := 2) (sz := 3) lk) ?_
    refine CD.ret ?_
    refine ⟨.inr rfl, _, [], List.nil_sublist _, ret_two Tryd.results16 (res_tmp (Nat.le_of_ble_eq_true rfl) lk) (res_tmp (Nat.le_of_ble_eq_true rfl) lk), ?_⟩
    rw [hres]; exact ⟨rfl, rfl⟩
  · have hc0' := hc0
    (try simp only [decide_eq_true_eq, decide_eq_false_iff_not, beq_iff_eq, bne_iff_ne, Bool.not_eq_true', Bool.not_eq_false', Bool.not_eq_true, Bool.not_eq_false, beq_eq_false_iff_ne, ne_eq, bne_eq_false_iff_eq, Bool.and_eq_true, Bool.or_eq_true, Bool.not_not, Bool.and_eq_false_iff, Bool.or_eq_false_iff, Int.not_lt, Int.not_le] at hc0')
    have h100 : b.length ≤ 100 := by omega
    refine CD.skip ?_
    refine CD.seq ?_
    refine CD.region ?_
    refine OD.still (wants_plain rfl) rfl (still_as rfl opd_const) ?_
    refine OD.wk (Wk.as_ (n := 32) (l' := [(0, _), (4, _)]) (S' := ([])) rfl rfl ⟨lk, lk, trivial⟩) ?_
    refine OD.nil ?_
    refine CD.seq ?_
    refine CD.block ?_
    refine CD.wk (Wk.asS (n := 32) (l' := [(0, .list 1 (b.flatMap cB) b.length), (4, .v (.slice none (([])).length (0)))]) (S' := (([]))) rfl (by repeat (first | exact List.Sublist.refl _ | apply List.Sublist.cons_cons | apply List.Sublist.cons)) ⟨(by (repeat (first | exact look_hit | (apply look_at; focus (first | rfl | (simp; done) | (congr 2; omega) | (apply row_eq; rfl) | (apply row_eq; rfl) | (apply row_eq; simp; done))) | (apply look_miss; focus rfl))); done), (by (repeat (first | exact look_hit | (apply look_at; focus (first | rfl | (simp; done) | (congr 2; omega) | (apply row_eq; rfl) | (apply row_eq; rfl) | (apply row_eq; simp; done))) | (apply look_miss; focus rfl))); done), trivial⟩) (CD.loop (fun (gh__ : Nat × List Vl × List UInt8 × Option Addr × Nat × List Blk) y__ => match gh__ with | (f, acc, q, adv, cpv, Sv) => (acc.length + f = 7) ∧ (1 ≤ f) ∧ (q.length ≤ 100) ∧ (decR b = decA f acc q) ∧ (OwnL 30 3 ((acc).flatMap cV) (acc).length adv cpv Sv) ∧ y__ = (⟨32, [(0, .list 1 (q.flatMap cB) q.length), (4, .v (.slice adv (acc).length cpv))], (Sv)⟩ : St)) (fun (gh__ : Nat × List Vl × List UInt8 × Option Addr × Nat × List Blk) => match gh__ with | (f, acc, q, adv, cpv, Sv) => f) (7, [], b, none, 0, []) ⟨rfl, (by decide), h100, (if_neg (by omega)), (OwnL.cast ownL_nil (by rfl)), rfl⟩ ?_)
    rintro ⟨f, acc, q, adv, cpv, Sv⟩ _ ⟨hf, hf1, hq, hinv, hov, rfl⟩
    refine CD.seq ?_
    refine CD.seq ?_
    refine CD.region ?_
    refine OD.still (wants_plain rfl) rfl (still_mv rfl ot) ?_
    refine OD.still (wants_plain rfl) rfl (still_r1 (mk := fun y => .call { callee := .builtin .len, args := #[y], argTypes := #[25] }) rfl ot (by first | exact len_list rfl Tryd.runUnderlying25 | exact len_row rfl Tryd.runUnderlying25)) ?_
    refine OD.still (wants_plain rfl) rfl (still_bin rfl ot opd_const bin_gtr) ?_
    refine OD.wk (Wk.as_ (n := 32) (l' := [(0, _), (4, _), (13, _)]) (S' := (Sv)) rfl rfl ⟨lk, lk, lk, trivial⟩) ?_
    refine OD.nil ?_
    refine CD.cond ot (fun hc1 => ?_) (fun hc1 => ?_)
    · have hc1' := hc1
      (try simp only [decide_eq_true_eq, decide_eq_false_iff_not, beq_iff_eq, bne_iff_ne, Bool.not_eq_true', Bool.not_eq_false', Bool.not_eq_true, Bool.not_eq_false, beq_eq_false_iff_ne, ne_eq, bne_eq_false_iff_eq, Bool.and_eq_true, Bool.or_eq_true, Bool.not_not, Bool.and_eq_false_iff, Bool.or_eq_false_iff, Int.not_lt, Int.not_le] at hc1')
      obtain ⟨k, r, rfl⟩ : ∃ k r, q = k :: r := by cases q with | nil => simp at hc1 | cons k r => exact ⟨k, r, rfl⟩
      obtain ⟨f, rfl⟩ : ∃ f0, f = f0 + 1 := ⟨f - 1, by omega⟩
      have hcons : (k :: r).length = r.length + 1 := rfl
      have hon1 := one_vp (G := G) k r (by omega)
      unfold oneD bytesL at hon1
      refine CD.skip ?_
      refine CD.block ?_
      refine CD.seq ?_
      refine CD.seq ?_
      refine CD.region ?_
      refine OD.still (wants_plain rfl) rfl (still_mv rfl ot) ?_
      refine OD.still (wants_plain rfl) rfl (still_r1 (mk := fun y => .call { callee := .builtin .len, args := #[y], argTypes := #[23] }) rfl ot (by first | exact len_list rfl Tryd.runUnderlying23 | exact len_row rfl Tryd.runUnderlying23)) ?_
      refine OD.still (wants_plain rfl) rfl (still_bin rfl ot opd_const bin_eql) ?_
      refine OD.wk (Wk.as_ (n := 32) (l' := [(0, _), (4, _), (16, _)]) (S' := (Sv)) rfl rfl ⟨lk, lk, lk, trivial⟩) ?_
      refine OD.nil ?_
      refine CD.cond ot (fun hc2 => ?_) (fun hc2 => ?_)
      · have hc2' := hc2
        (try simp only [decide_eq_true_eq, decide_eq_false_iff_not, beq_iff_eq, bne_iff_ne, Bool.not_eq_true', Bool.not_eq_false', Bool.not_eq_true, Bool.not_eq_false, beq_eq_false_iff_ne, ne_eq, bne_eq_false_iff_eq, Bool.and_eq_true, Bool.or_eq_true, Bool.not_not, Bool.and_eq_false_iff, Bool.or_eq_false_iff, Int.not_lt, Int.not_le] at hc2')
        have hres : decR b = ([], 1) := by rw [hinv, decA, if_pos (by simp at hc2; omega)]
        refine CD.seq ?_
        refine CD.region ?_
        refine OD.still (wants_plain rfl) rfl (still_as rfl opd_const) ?_
        refine OD.still (wants_plain rfl) rfl (still_as rfl opd_const) ?_
        refine OD.wk (Wk.as_ (n := 32) (l' := [(2, _), (3, _)]) (S' := (Sv)) rfl rfl ⟨lk, lk, trivial⟩) ?_
        refine OD.nil ?_
        refine CD.wk (Wk.giveNil (t := 2) (sz := 3) lk) ?_
        refine CD.ret ?_
        refine ⟨.inr rfl, _, [], List.nil_sublist _, ret_two Tryd.results16 (res_tmp (Nat.le_of_ble_eq_true rfl) lk) (res_tmp (Nat.le_of_ble_eq_true rfl) lk), ?_⟩
        rw [hres]; exact ⟨rfl, rfl⟩
      · have hc2' := hc2
        (try simp only [decide_eq_true_eq, decide_eq_false_iff_not, beq_iff_eq, bne_iff_ne, Bool.not_eq_true', Bool.not_eq_false', Bool.not_eq_true, Bool.not_eq_false, beq_eq_false_iff_ne, ne_eq, bne_eq_false_iff_eq, Bool.and_eq_true, Bool.or_eq_true, Bool.not_not, Bool.and_eq_false_iff, Bool.or_eq_false_iff, Int.not_lt, Int.not_le] at hc2')
        have ha6 : ¬ acc.length = 6 := by intro e; rw [e] at hc2; simp at hc2
        refine CD.skip ?_
        refine CD.seq ?_
        refine CD.region ?_
        refine OD.still (wants_plain rfl) rfl (still_mv rfl ot) ?_
        refine OD.callP (wants_plain rfl) rfl rfl rfl Tryd.call31 (hon1) ⟨ot, trivial⟩ ?_
        refine OD.still (wants_plain rfl) rfl (still_mv rfl ot) ?_
        refine OD.still (wants_plain rfl) rfl (still_extract rfl ot rfl) ?_
        refine OD.still (wants_plain rfl) rfl (still_extract rfl ot rfl) ?_
        refine OD.still (wants_plain rfl) rfl (still_extract rfl ot rfl) ?_
        refine OD.alloc (ds := [_, _, _]) (wants_plain rfl) rfl rfl Tryd.zeroValue30 rfl (fun b5 => ?_)
        refine OD.store (k := 0) (cs' := [_, _, _]) (wants_plain rfl) rfl rfl ot rfl rfl ot rfl rfl Tryd.sizeOf30 rfl rfl rfl ?_
        refine OD.still (wants_plain rfl) rfl (still_as rfl ot) ?_
        refine OD.still (wants_plain rfl) rfl (still_as rfl ot) ?_
        refine OD.wk (Wk.as_ (n := 32) (l' := [(4, _), (5, _), (6, _), (7, _)]) (S' := (⟨b5, 30, 3, [_, _, _]⟩ :: Sv)) rfl rfl ⟨lk, lk, lk, lk, trivial⟩) ?_
        refine OD.nil ?_
        refine CD.seq ?_
        refine CD.seq ?_
        refine CD.region ?_
        refine OD.still (wants_plain rfl) rfl (still_mv rfl ot) ?_
        refine OD.still (wants_plain rfl) rfl (still_bin rfl ot opd_const bin_neq) ?_
        refine OD.wk (Wk.as_ (n := 32) (l' := [(4, _), (5, _), (6, _), (7, _), (24, _)]) (S' := (⟨b5, 30, 3, [_, _, _]⟩ :: Sv)) rfl rfl ⟨lk, lk, lk, lk, lk, trivial⟩) ?_
        refine OD.nil ?_
        refine CD.cond ot (fun hc3 => ?_) (fun hc3 => ?_)
        · have hc3' := hc3
          (try simp only [decide_eq_true_eq, decide_eq_false_iff_not, beq_iff_eq, bne_iff_ne, Bool.not_eq_true', Bool.not_eq_false', Bool.not_eq_true, Bool.not_eq_false, beq_eq_false_iff_ne, ne_eq, bne_eq_false_iff_eq, Bool.and_eq_true, Bool.or_eq_true, Bool.not_not, Bool.and_eq_false_iff, Bool.or_eq_false_iff, Int.not_lt, Int.not_le] at hc3')
          have hne : (oneR k r).2.2 ≠ 0 := by simpa using hc3
          have hres : decR b = ([], (oneR k r).2.2) := by rw [hinv, decA, if_neg ha6, if_pos hne]
          refine CD.seq ?_
          refine CD.region ?_
          refine OD.still (wants_plain rfl) rfl (still_mv rfl ot) ?_
          refine OD.still (wants_plain rfl) rfl (still_as rfl opd_const) ?_
          refine OD.still (wants_plain rfl) rfl (still_as rfl ot) ?_
          refine OD.wk (Wk.as_ (n := 32) (l' := [(2, _), (3, _)]) (S' := (⟨b5, 30, 3, [_, _, _]⟩ :: Sv)) rfl rfl ⟨lk, lk, trivial⟩) ?_
          refine OD.nil ?_
          refine CD.wk (Wk.giveNil (t := 2) (sz := 3) lk) ?_
          refine CD.ret ?_
          refine ⟨.inr rfl, _, [], List.nil_sublist _, ret_two Tryd.results16 (res_tmp (Nat.le_of_ble_eq_true rfl) lk) (res_tmp (Nat.le_of_ble_eq_true rfl) lk), ?_⟩
          rw [hres]; exact ⟨rfl, rfl⟩
        · have hc3' := hc3
          (try simp only [decide_eq_true_eq, decide_eq_false_iff_not, beq_iff_eq, bne_iff_ne, Bool.not_eq_true', Bool.not_eq_false', Bool.not_eq_true, Bool.not_eq_false, beq_eq_false_iff_ne, ne_eq, bne_eq_false_iff_eq, Bool.and_eq_true, Bool.or_eq_true, Bool.not_not, Bool.and_eq_false_iff, Bool.or_eq_false_iff, Int.not_lt, Int.not_le] at hc3')
          have he0 : (oneR k r).2.2 = 0 := by simpa using hc3
          have hnext : decR b = decA f (acc ++ [(oneR k r).1]) (oneR k r).2.1 := by rw [hinv, decA, if_neg ha6, if_neg (by rw [he0]; simp)]
          refine CD.skip ?_
          refine CD.seq ?_
          refine CD.region ?_
          refine OD.still (wants_plain rfl) rfl (still_mv rfl ot) ?_
          refine OD.still (wants_plain rfl) rfl (still_r1 (mk := Op.load 30) rfl ot (by first | exact ld_blks (k := 0) (ds := [_, _, _]) rfl rfl Tryd.isAgg30 Tryd.sizeOf30 rfl rfl | exact ld_fms cV_len Tryd.isAgg30 Tryd.sizeOf30 (by first | assumption | omega) | exact ld_fms cB_len Tryd.isAgg30 Tryd.sizeOf30 (by first | assumption | omega) | exact ld_rows (k := 0) cV_len rfl rfl rfl Tryd.isAgg30 Tryd.sizeOf30 (by first | assumption | omega) | exact ld_rows (k := 0) cB_len rfl rfl rfl Tryd.isAgg30 Tryd.sizeOf30 (by first | assumption | omega) | exact ld_is (ds := [_, _, _]) Tryd.isAgg30 Tryd.sizeOf30 rfl rfl)) ?_
          refine OD.bldS (pl := [(0, _)]) (zvs := [.int .i64 0, .int .i64 0, .string ⟨#[]⟩]) (ds := [_, _, _]) (wants_plain rfl) rfl rfl Tryd.zeroValue30 Tryd.runUnderlying23 Tryd.sizeOf30 rfl rfl (by kernel_rfl) ⟨rfl, ot, trivial⟩ rfl rfl (fun b28 => ?_)
          refine OD.give (k := 0) (t := 28) (sz := 3) (m := 1) rfl lk rfl rfl rfl (Nat.le_refl _) (by decide) ?_
          refine OD.appendG (ls := (acc)) (new := [(oneR k r).1]) (Sq := Sv) cV_len cV_one (wants_plain rfl) rfl rfl Tryd.underlying23 info30_Cd2 rfl (by decide) ot hov (perm_r11 (A := [_])) ot (by simp) (by have hmx : maxLen = 9223372036854775807 := rfl; (try simp only [List.length_append, List.length_cons, List.length_nil]); omega) (by have hmx : maxLen = 9223372036854775807 := rfl; (try simp only [List.length_append, List.length_cons, List.length_nil]); omega) (fun b29 cp29 h129 h229 => ?_)
          refine OD.perm (perm_q11 (S1 := [⟨b29, 30, cp29 * 3, List.flatMap cV ((acc) ++ [(oneR k r).1])⟩]) (A := [_])) ?_
          refine OD.still (wants_plain rfl) rfl (still_as rfl ot) ?_
          refine OD.wk (Wk.as_ (n := 32) (l' := [(4, _), (6, _)]) (S' := (⟨b5, 30, 3, [_, _, _]⟩ :: [⟨b29, 30, cp29 * 3, List.flatMap cV ((acc) ++ [(oneR k r).1])⟩])) rfl rfl ⟨lk, lk, trivial⟩) ?_
          refine OD.nil ?_
          refine CD.region ?_
          refine OD.still (wants_plain rfl) rfl (still_mv rfl ot) ?_
          refine OD.still (wants_plain rfl) rfl (still_as rfl ot) ?_
          refine OD.wk (Wk.as_ (n := 32) (l' := [(0, _), (4, _)]) (S' := (⟨b5, 30, 3, [_, _, _]⟩ :: [⟨b29, 30, cp29 * 3, List.flatMap cV ((acc) ++ [(oneR k r).1])⟩])) rfl rfl ⟨lk, lk, trivial⟩) ?_
          refine OD.nil ?_
          refine ⟨(f, (acc ++ [(oneR k r).1]), (oneR k r).2.1, (some ⟨b29, 0, none⟩), cp29, [⟨b29, 30, cp29 * 3, List.flatMap cV ((acc) ++ [(oneR k r).1])⟩]), ⟨32, [(0, .list 1 (((oneR k r).2.1).flatMap cB) ((oneR k r).2.1).length), (4, .v (.slice ((some ⟨b29, 0, none⟩)) (((acc ++ [(oneR k r).1]))).length cp29))], (([⟨b29, 30, cp29 * 3, List.flatMap cV ((acc) ++ [(oneR k r).1])⟩]))⟩, ?_, Wk.asS (n := 32) rfl (by repeat (first | exact List.Sublist.refl _ | apply List.Sublist.cons_cons | apply List.Sublist.cons)) ⟨(by (repeat (first | exact look_hit | (apply look_at; focus (first | rfl | (simp; done) | (congr 2; omega) | (apply row_eq; rfl) | (apply row_eq; rfl) | (apply row_eq; simp; done))) | (apply look_miss; focus rfl))); done), (by (repeat (first | exact look_hit | (apply look_at; focus (first | rfl | (simp; done) | (congr 2; omega) | (apply row_eq; rfl) | (apply row_eq; rfl) | (apply row_eq; simp; done))) | (apply look_miss; focus rfl))); done), trivial⟩, (by simp; omega), (by omega), (by have := one_rest k r; omega), hnext, (OwnL.cast (ownL_row h129 h229) (by rfl)), rfl⟩
          first | omega | (simp only []; omega)
    · have hc1' := hc1
      (try simp only [decide_eq_true_eq, decide_eq_false_iff_not, beq_iff_eq, bne_iff_ne, Bool.not_eq_true', Bool.not_eq_false', Bool.not_eq_true, Bool.not_eq_false, beq_eq_false_iff_ne, ne_eq, bne_eq_false_iff_eq, Bool.and_eq_true, Bool.or_eq_true, Bool.not_not, Bool.and_eq_false_iff, Bool.or_eq_false_iff, Int.not_lt, Int.not_le] at hc1')
      have hq0 : q = [] := List.eq_nil_of_length_eq_zero (by simp at hc1; simpa using hc1)
      obtain ⟨f, rfl⟩ : ∃ f0, f = f0 + 1 := ⟨f - 1, by omega⟩
      have hres : decR b = (acc, 0) := by rw [hinv, hq0]; rfl
      refine CD.exit ?_
      refine CD.seq ?_
      refine CD.region ?_
      refine OD.still (wants_plain rfl) rfl (still_mv rfl ot) ?_
      refine OD.still (wants_plain rfl) rfl (still_as rfl ot) ?_
      refine OD.still (wants_plain rfl) rfl (still_as rfl opd_const) ?_
      refine OD.wk (Wk.as_ (n := 32) (l' := [(2, _), (3, _)]) (S' := (Sv)) rfl rfl ⟨lk, lk, trivial⟩) ?_
      refine OD.nil ?_
      refine CD.giveL (t := 2) (Sq := Sv) lk hov (fm_len cV_len _) (perm_r11 (A := [])) ?_
      refine CD.ret ?_
      refine ⟨.inr rfl, _, [], List.nil_sublist _, ret_two Tryd.results16 (res_tmp (Nat.le_of_ble_eq_true rfl) lk) (res_tmp (Nat.le_of_ble_eq_true rfl) lk), ?_⟩
      rw [hres]; exact ⟨rfl, rfl⟩

end Go.Proofs.YtoemmoeedhllfaaDoor.Cd

namespace Go.Proofs.YtoemmoeedhllfaaDoor.Cd
open Go.RowKit V Pk Vl
set_option linter.unusedVariables false
set_option linter.unusedSimpArgs false

theorem unbe_append : ∀ (b a : List UInt8), unbe (a ++ b) = unbe a * 256 ^ b.length + unbe b
  | [], a => by simp [unbe]
  | c :: b, a => by
    have h1 := unbe_append b (a ++ [c])
    have h2 := unbe_append b [c]
    rw [List.append_assoc, List.singleton_append, unbe_snoc] at h1
    have h3 : unbe (c :: b) = c.toNat * 256 ^ b.length + unbe b := by
      rw [List.singleton_append] at h2
      rw [h2]
      have : unbe [c] = c.toNat := by simp [unbe]
      rw [this]
    rw [h1, h3, List.length_cons, Nat.pow_succ, Nat.add_mul, Nat.mul_assoc, Nat.mul_comm 256]
    omega
theorem unbe_be8 {u : Nat} (h : u < 18446744073709551616) : unbe (be8 u) = u := by
  have key : ∀ k, k ≤ 8 → unbe ((be8 u).take k) = u / 256 ^ (8 - k) := by
    intro k
    induction k with
    | zero => intro _; show 0 = u / 256 ^ 8; exact (Nat.div_eq_of_lt h).symm
    | succ k ih =>
      intro hk
      have hb := ih (by omega)
      rw [← be_step (by omega), unbe_snoc, hb]
      unfold beAt
      rw [UInt8.toNat_ofNat', show 8 - k = (7 - k) + 1 by omega, show 8 - (k + 1) = 7 - k by omega, Nat.pow_succ, ← Nat.div_div_eq_div_mul]
      have := Nat.div_add_mod (u / 256 ^ (7 - k)) 256
      omega
  have := key 8 (Nat.le_refl _)
  rw [List.take_of_length_le (by rw [be_len]; omega)] at this
  rw [this]; simp
theorem str_empty {s : ByteArray} (h : s.size = 0) : s = ⟨#[]⟩ := str_ext (List.eq_nil_of_length_eq_zero (by rw [str_len, h]))
theorem check_0 {v : Vl} (h : checkV v = 0) (hk : v.k = 0) : v = ⟨0, 0, ⟨#[]⟩⟩ := by
  unfold checkV at h
  rw [if_pos hk] at h
  split at h
  · cases h
  · rename_i hn
    exact Vl.ext' hk (by show v.n = 0; omega) (str_empty (by omega))
theorem check_1 {v : Vl} (h : checkV v = 0) (hk : v.k = 1) : v.s = ⟨#[]⟩ := by
  unfold checkV at h
  rw [if_neg (by omega), if_pos hk] at h
  split at h
  · cases h
  · exact str_empty (by omega)
theorem check_2 {v : Vl} (h : checkV v = 0) (hk : v.k = 2) : v.s = ⟨#[]⟩ := by
  unfold checkV at h
  rw [if_neg (by omega), if_neg (by omega), if_pos hk] at h
  split at h
  · cases h
  · exact str_empty (by omega)
theorem check_3 {v : Vl} (h : checkV v = 0) (hk : v.k = 3) : v.n = 0 := by
  unfold checkV at h
  rw [if_neg (by omega), if_neg (by omega), if_neg (by omega), if_pos hk] at h
  split at h
  · cases h
  · omega
/-- Values that may stand in a key. -/
def GoodV (l : List Vl) : Prop := ∀ v ∈ l, checkV v = 0 ∧ v.Ok
theorem encL_cons (v : Vl) (l : List Vl) : encL (v :: l) = encV v ++ encL l := by unfold encL; rw [List.flatMap_cons]
theorem encL_app (a b : List Vl) : encL (a ++ b) = encL a ++ encL b := by unfold encL; rw [List.flatMap_append]
theorem enc_good {l : List Vl} (g : GoodV l) (h6 : l.length ≤ 6) (h100 : (encL l).length ≤ 100) : encR l = (encL l, 0) := by
  unfold encR
  rw [if_neg (by omega), errV_ok fun v hv => (g v hv).1, if_neg (by simp), if_neg (by omega)]
/-! ### The values that the statements make -/
theorem esc_len5 {v : Vl} (hs : v.s.size ≤ 5) (h : checkV v = 0) : (encV v).length ≤ 13 := by
  unfold encV payV
  rw [List.length_cons]
  split
  · simp
  · split
    · rw [be_len]; omega
    · split
      · have h2 := esc_len v.s.data.toList
        rw [str_len] at h2
        rw [List.length_append]; simp; omega
      · simp
theorem valC_good {r : Vl} (h : r.Ok) : checkV (valC r) = 0 ∧ (valC r).Ok ∧ (valC r).s.size ≤ 5 := by
  have hmx : 100 ≤ maxLen := by decide
  have h5 : (cutF (valueF r).s 5).size ≤ 5 := by rw [cutF_size]; omega
  have he : cutF (⟨#[]⟩ : ByteArray) 5 = ⟨#[]⟩ := str_ext (by rw [cutF_list]; rfl)
  have h2 := pickedF_bd r.n (by decide : (1 : Int) ≤ 2)
  have h1 := h.n1
  have h3 := h.n2
  have hb : ((⟨#[]⟩ : ByteArray).size) = 0 := rfl
  have hb : (ByteArray.empty.size) = 0 := rfl
  have hee : (ByteArray.empty) = (⟨#[]⟩ : ByteArray) := rfl
  refine ⟨?_, ?_, h5⟩
  · unfold valC valueF
    split
    · simp only [checkV, he]; simp [hee]; omega
    · split
      · simp only [checkV, he]; simp [hee]
      · split
        · have : (cutF (cutF r.s 10) 5).size ≤ 5 := by rw [cutF_size]; omega
          simp only [checkV]; simp; omega
        · unfold noVl; simp only [checkV, he]; simp [hee]
  · have hk : 0 ≤ (valueF r).k ∧ (valueF r).k ≤ 3 := by unfold valueF noVl; split <;> (try split) <;> (try split) <;> (constructor <;> (simp only [] <;> decide))
    have hn : -9223372036854775808 ≤ (valueF r).n ∧ (valueF r).n ≤ 9223372036854775807 := by unfold valueF noVl; split <;> (try split) <;> (try split) <;> (constructor <;> (simp only [] <;> omega))
    have a1 : -9223372036854775808 ≤ (valueF r).k := by omega
    have a2 : (valueF r).k ≤ 9223372036854775807 := by omega
    have ek : (valC r).k = (valueF r).k := rfl
    have en : (valC r).n = (valueF r).n := rfl
    have es : (valC r).s = cutF (valueF r).s 5 := rfl
    exact ⟨by rw [ek]; exact a1, by rw [ek]; exact a2, by rw [en]; exact hn.1, by rw [en]; exact hn.2, by rw [es]; omega⟩
theorem vals_mem {l : List Vl} (hl : ∀ v ∈ l, v.Ok) : ∀ v ∈ valsF l, checkV v = 0 ∧ v.Ok ∧ v.s.size ≤ 5 := by
  intro v hv
  unfold valsF at hv
  obtain ⟨r, hr, rfl⟩ := List.mem_map.1 hv
  exact valC_good (hl r (List.mem_of_mem_take hr))
theorem vals_len (l : List Vl) : (valsF l).length ≤ 6 := by unfold valsF; rw [List.length_map, List.length_take]; omega
theorem encL_13 : ∀ {l : List Vl}, (∀ v ∈ l, checkV v = 0 ∧ v.Ok ∧ v.s.size ≤ 5) → (encL l).length ≤ 13 * l.length
  | [], _ => Nat.le_refl _
  | v :: r, h => by
    obtain ⟨h1, h2, h3⟩ := h v List.mem_cons_self
    have h4 := esc_len5 h3 h1
    have h5 := encL_13 (l := r) fun x hx => h x (List.mem_cons_of_mem _ hx)
    rw [encL_cons, List.length_append, List.length_cons]; omega
/-- Six such values have a key. -/
theorem small_enc {l : List Vl} (h : ∀ v ∈ l, checkV v = 0 ∧ v.Ok ∧ v.s.size ≤ 5) (h6 : l.length ≤ 6) : encR l = (encL l, 0) ∧ GoodV l ∧ (encL l).length ≤ 100 := by
  have h1 := encL_13 h
  have g : GoodV l := fun v hv => ⟨(h v hv).1, (h v hv).2.1⟩
  exact ⟨enc_good g h6 (by omega), g, by omega⟩

end Go.Proofs.YtoemmoeedhllfaaDoor.Cd

namespace Go.Proofs.YtoemmoeedhllfaaDoor.V
open Go.RowKit
set_option linter.unusedVariables false

variable {H : Type} {enc : TypeId × Value → H} {P : Program} {w : World} {base : Nat} {sp : Nat → Bool} {held : Bool}

/-- The same as Rds, read no deeper than so. -/
def RdsF (fuel : Nat) (enc : TypeId × Value → H) (P : Program) (w : World) (base : Nat) (sp : Nat → Bool) (held : Bool) (t : TypeId) {α : Type} (g : α → List D) (ok : α → Prop) : Prop :=
  ∀ cs x, DataW.trod enc P w base sp held fuel t cs = some x → ∃ a, RepL w (fun _ => False) (g a) cs ∧ ok a

theorem Rds.at {t : TypeId} {α : Type} {g : α → List D} {ok : α → Prop} (h : Rds enc P w base sp held t g ok) (n : Nat) : RdsF n enc P w base sp held t g ok := h n

theorem RepL.one {w : World} {L : Nat → Prop} {d : D} {v : Value} (h : Rep w L d v) : RepL w L [d] [v] := ⟨rfl, fun i h1 h2 => by
  have : i = 0 := by simpa using h1
  subst this
  exact h⟩

end Go.Proofs.YtoemmoeedhllfaaDoor.V

namespace Go.Proofs.YtoemmoeedhllfaaDoor.Cd
open Go.RowKit V Pk Vl
set_option linter.unusedVariables false
set_option linter.unusedSimpArgs false

variable {G : List (Nat × List Value)} {m : Int}
set_option maxRecDepth 100000
theorem rd_raw {H : Type} {enc : TypeId × Value → H} {w : World} {base : Nat} {sp : Nat → Bool} {held : Bool} : Rds enc Tryd.prog w base sp held 65 cV Vl.Ok :=
  (rd_struct3 Tryd.underlying65 (n0 := 1) (n1 := 1) (n2 := 1) (by kernel_rfl) rfl rfl rfl (by kernel_rfl) (by kernel_rfl) (by kernel_rfl) (rd_int Tryd.underlying3) (rd_int Tryd.underlying3) (rd_string Tryd.underlying9)).map (fun a => ⟨a.1, a.2.1, a.2.2⟩) (fun a => rfl) (fun a h => ⟨h.1.1, h.1.2, h.2.1.1, h.2.1.2, h.2.2⟩)
theorem rd_raws {H : Type} {enc : TypeId × Value → H} {w : World} {base b' : Nat} {sp : Nat → Bool} {held : Bool} {v : Value} {d : DataW H} {p : List MemPlace} (hval : Value.okWide Tryd.prog w .any b' 22 v) (h : DataW.Trod enc Tryd.prog w base sp held 22 v d p) :
    ∃ l : List Vl, Rep w (fun _ => False) (.list 3 (l.flatMap cV) l.length) v ∧ (l.length ≤ maxLen ∧ ∀ x ∈ l, x.Ok) ∧ True := by
  obtain ⟨l, h1, h2, h3⟩ := rd_slice Tryd.underlying22 (by kernel_rfl) (by decide) rd_raw cV_len hval h
  exact ⟨l, h1, ⟨h3, h2⟩, trivial⟩
theorem len_var {W : World} (hS : W.ShapedOpen Tryd.prog) : ∃ m, Tab.TabAt W 3 [Value.int .i64 m] := by
  obtain ⟨m, hm⟩ := Tryd.laysM155.s1_3 W hS
  exact ⟨m, fun k v hk => by
    match k, hk with
    | 0, hk => cases hk; exact hm⟩
end Go.Proofs.YtoemmoeedhllfaaDoor.Cd

namespace Go.Proofs.YtoemmoeedhllfaaDoor.Cd
open Go.RowKit V Pk Vl
set_option linter.unusedVariables false
set_option linter.unusedSimpArgs false

variable {G : List (Nat × List Value)} {m : Int}
theorem maxlen_le : 100 ≤ maxLen := by decide
theorem good_ok {l : List Vl} (g : GoodV l) : ∀ v ∈ l, v.Ok := fun v hv => (g v hv).2
end Go.Proofs.YtoemmoeedhllfaaDoor.Cd

namespace Go.Proofs.YtoemmoeedhllfaaDoor.Cd
end Go.Proofs.YtoemmoeedhllfaaDoor.Cd


namespace Go.Proofs.YtoemmoeedhllfaaDoor.Cd
open Go.RowKit V Pk Vl
set_option linter.unusedVariables false
set_option linter.unusedSimpArgs false

open Go.Lib (compareBytes)
theorem lt_nat {a b : UInt8} : a < b ↔ a.toNat < b.toNat := UInt8.lt_iff_toNat_lt
theorem ne_nat {a b : UInt8} (h : a ≠ b) : a.toNat ≠ b.toNat := fun e => h (UInt8.toNat_inj.1 e)
theorem cb_cons (a b : UInt8) (x y : List UInt8) : compareBytes (a :: x) (b :: y) = if a < b then -1 else if b < a then 1 else compareBytes x y := by rw [compareBytes]
theorem cb_lt {a b : UInt8} (x y : List UInt8) (h : a.toNat < b.toNat) : compareBytes (a :: x) (b :: y) = -1 := by rw [cb_cons, if_pos (lt_nat.2 h)]
theorem cb_eq (a : UInt8) (x y : List UInt8) : compareBytes (a :: x) (a :: y) = compareBytes x y := by
  rw [cb_cons, if_neg (by rw [lt_nat]; omega), if_neg (by rw [lt_nat]; omega)]
theorem cb_same : ∀ (p x y : List UInt8), compareBytes (p ++ x) (p ++ y) = compareBytes x y
  | [], _, _ => rfl
  | a :: p, x, y => by rw [List.cons_append, List.cons_append, cb_eq, cb_same p x y]
theorem cb_anti : ∀ (x y : List UInt8), compareBytes y x = - compareBytes x y
  | [], [] => rfl
  | [], _ :: _ => rfl
  | _ :: _, [] => rfl
  | a :: x, b :: y => by
    have ih := cb_anti x y
    rw [cb_cons, cb_cons]
    rcases Nat.lt_trichotomy a.toNat b.toNat with h | h | h
    · rw [if_neg (by rw [lt_nat]; omega), if_pos (lt_nat.2 h), if_pos (lt_nat.2 h)]; rfl
    · rw [if_neg (by rw [lt_nat]; omega), if_neg (by rw [lt_nat]; omega), if_neg (by rw [lt_nat]; omega), if_neg (by rw [lt_nat]; omega), ih]
    · rw [if_pos (lt_nat.2 h), if_neg (by rw [lt_nat]; omega), if_pos (lt_nat.2 h)]
theorem cb_three : ∀ (x y : List UInt8), compareBytes x y = -1 ∨ compareBytes x y = 0 ∧ x = y ∨ compareBytes x y = 1
  | [], [] => .inr (.inl ⟨rfl, rfl⟩)
  | [], _ :: _ => .inl rfl
  | _ :: _, [] => .inr (.inr rfl)
  | a :: x, b :: y => by
    rw [cb_cons]
    rcases Nat.lt_trichotomy a.toNat b.toNat with h | h | h
    · exact .inl (if_pos (lt_nat.2 h))
    · have e : a = b := UInt8.toNat_inj.1 h
      subst e
      rw [if_neg (by rw [lt_nat]; omega), if_neg (by rw [lt_nat]; omega)]
      rcases cb_three x y with h | ⟨h, e⟩ | h
      · exact .inl h
      · exact .inr (.inl ⟨h, by rw [e]⟩)
      · exact .inr (.inr h)
    · exact .inr (.inr (by rw [if_neg (by rw [lt_nat]; omega), if_pos (lt_nat.2 h)]))
theorem unbe_cons (c : UInt8) (b : List UInt8) : unbe (c :: b) = c.toNat * 256 ^ b.length + unbe b := by
  have h2 := unbe_append b [c]
  rw [List.singleton_append] at h2
  rw [h2]
  have : unbe [c] = c.toNat := by simp [unbe]
  rw [this]
theorem be_lt : ∀ (l k : List UInt8) (x y : List UInt8), l.length = k.length → unbe l < unbe k → compareBytes (l ++ x) (k ++ y) = -1
  | [], [], _, _, _, h => absurd h (Nat.lt_irrefl _)
  | [], _ :: _, _, _, h, _ => by simp at h
  | _ :: _, [], _, _, h, _ => by simp at h
  | a :: l, b :: k, x, y, hl, h => by
    simp only [List.length_cons, Nat.add_right_cancel_iff] at hl
    rw [unbe_cons, unbe_cons, hl] at h
    have h1 := unbe_lt _ l hl
    have h2 := unbe_lt _ k rfl
    rw [List.cons_append, List.cons_append]
    rcases Nat.lt_trichotomy a.toNat b.toNat with e | e | e
    · exact cb_lt _ _ e
    · have e' : a = b := UInt8.toNat_inj.1 e
      subst e'
      rw [cb_eq]
      exact be_lt l k x y hl (by omega)
    · exfalso
      have : (b.toNat + 1) * 256 ^ k.length ≤ a.toNat * 256 ^ k.length := Nat.mul_le_mul_right _ e
      rw [Nat.succ_mul] at this
      omega
theorem esc_cons (c : UInt8) (s : List UInt8) : escL (c :: s) = (if c = 0 then [0, 255] else [c]) ++ escL s := by unfold escL; rw [List.flatMap_cons]
theorem nz_nat {c : UInt8} (h : ¬ c = 0) : 0 < c.toNat := by
  have := ne_nat h
  have e : (0 : UInt8).toNat = 0 := rfl
  omega
theorem esc_lt : ∀ (s t x y : List UInt8), compareBytes s t = -1 → compareBytes (escL s ++ ([0, 0] ++ x)) (escL t ++ ([0, 0] ++ y)) = -1
  | [], [], _, _, h => by exact absurd h (by decide)
  | _ :: _, [], _, _, h => by exact absurd (show (1 : Int) = -1 from h) (by decide)
  | [], d :: t, x, y, _ => by
    rw [esc_cons]
    by_cases hd : d = 0
    · rw [if_pos hd]
      show compareBytes (0 :: 0 :: x) (0 :: 255 :: (escL t ++ ([0, 0] ++ y))) = -1
      rw [cb_eq]; exact cb_lt _ _ (by decide)
    · rw [if_neg hd]
      exact cb_lt (a := 0) _ _ (nz_nat hd)
  | c :: s, d :: t, x, y, h => by
    rcases Nat.lt_trichotomy c.toNat d.toNat with e | e | e
    · have hd : ¬ d = 0 := fun hd => by subst hd; have : (0 : UInt8).toNat = 0 := rfl; omega
      rw [esc_cons, esc_cons, if_neg hd]
      by_cases hc : c = 0
      · rw [if_pos hc]; exact cb_lt (a := 0) _ _ (nz_nat hd)
      · rw [if_neg hc]; exact cb_lt _ _ e
    · have e' : c = d := UInt8.toNat_inj.1 e
      subst e'
      rw [cb_eq] at h
      rw [esc_cons, esc_cons, List.append_assoc, List.append_assoc, cb_same]
      exact esc_lt s t x y h
    · rw [cb_cons, if_neg (by rw [lt_nat]; omega), if_pos (lt_nat.2 e)] at h
      exact absurd h (by decide)
theorem less_cb : ∀ (x y : List UInt8), Op.bytesLess x y = decide (compareBytes x y < 0)
  | [], [] => rfl
  | [], _ :: _ => rfl
  | _ :: _, [] => rfl
  | a :: x, b :: y => by
    have ih := less_cb x y
    rw [cb_cons, Op.bytesLess]
    rcases Nat.lt_trichotomy a.toNat b.toNat with h | h | h
    · rw [if_pos (lt_nat.2 h)]; simp [lt_nat, h]
    · have e : a = b := UInt8.toNat_inj.1 h
      subst e
      rw [if_neg (by rw [lt_nat]; omega), if_neg (by rw [lt_nat]; omega), ← ih]; simp [lt_nat]
    · rw [if_neg (by rw [lt_nat]; omega), if_pos (lt_nat.2 h)]
      have hne : ¬ a = b := fun e => by subst e; omega
      have hnl : ¬ a < b := by rw [lt_nat]; omega
      simp [hne, hnl]

/-! ### What value.Compare answers -/
def cmpI (x y : Int) : Int := if x < y then -1 else if x > y then 1 else 0
def orL : List Int → Int
  | [] => 0
  | a :: l => if a ≠ 0 then a else orL l
def cmpL (a b : Vl) : List Int := [cmpI a.k b.k, cmpI a.n b.n, compareBytes a.s.data.toList b.s.data.toList]
def cmpV (a b : Vl) : Int := orL (cmpL a b)
theorem cmpI_three (x y : Int) : cmpI x y = -1 ∧ x < y ∨ cmpI x y = 0 ∧ x = y ∨ cmpI x y = 1 ∧ y < x := by unfold cmpI; split; omega; split <;> omega
theorem cmpI_anti (x y : Int) : cmpI y x = - cmpI x y := by
  rcases cmpI_three x y with h | h | h <;> rcases cmpI_three y x with k | k | k <;> omega
theorem cmpV_anti (a b : Vl) : cmpV b a = - cmpV a b := by
  unfold cmpV cmpL orL orL orL orL
  rw [cmpI_anti a.k b.k, cmpI_anti a.n b.n, cb_anti a.s.data.toList b.s.data.toList]
  repeat' split
  all_goals omega
theorem cmpV_zero {a b : Vl} (h : cmpV a b = 0) : a = b := by
  unfold cmpV cmpL orL orL orL orL at h
  rcases cmpI_three a.k b.k with h1 | h1 | h1 <;> rcases cmpI_three a.n b.n with h2 | h2 | h2 <;> rcases cb_three a.s.data.toList b.s.data.toList with h3 | h3 | h3
  all_goals (rw [h1.1, h2.1] at h; first | rw [h3.1] at h | rw [h3] at h)
  all_goals first
    | exact absurd h (by decide)
    | exact Vl.ext' h1.2 h2.2 (str_ext h3.2)
theorem key_lt {v w : Vl} (hv : checkV v = 0) (ov : v.Ok) (hw : checkV w = 0) (ow : w.Ok) (x y : List UInt8) (h : cmpV v w = -1) : compareBytes (encV v ++ x) (encV w ++ y) = -1 := by
  have kv := kb_nat hv
  have kw := kb_nat hw
  unfold encV
  rw [List.cons_append, List.cons_append]
  unfold cmpV cmpL orL orL orL orL at h
  rcases cmpI_three v.k w.k with h1 | h1 | h1
  · exact cb_lt _ _ (by omega)
  · have ek : kb v = kb w := UInt8.toNat_inj.1 (by omega)
    rw [ek, cb_eq]
    rw [h1.1, if_neg (by simp)] at h
    have hk := check_kind hv
    have h4 : v.k = 0 ∨ v.k = 1 ∨ v.k = 2 ∨ v.k = 3 := by omega
    rcases cmpI_three v.n w.n with h2 | h2 | h2
    · rcases h4 with e | e | e | e
      · have := check_0 hv e; have := check_0 hw (by omega); simp_all
      · have n1 := nb_nat hv e; have n2 := nb_nat hw (by omega)
        rw [pay_1 e, pay_1 (by omega)]
        exact cb_lt _ _ (by omega)
      · have u1 := uN_int ov; have u2 := uN_int ow
        have b1 := ov.n2; have b2 := ow.n2
        rw [pay_2 e, pay_2 (by omega)]
        exact be_lt _ _ _ _ (by rw [be_len, be_len]) (by rw [unbe_be8 (by omega), unbe_be8 (by omega)]; omega)
      · have := check_3 hv e; have := check_3 hw (by omega); omega
    · rw [h2.1, if_neg (by simp)] at h
      have h : compareBytes v.s.data.toList w.s.data.toList = -1 := by
        by_cases hz : compareBytes v.s.data.toList w.s.data.toList = 0
        · rw [hz] at h; simp at h
        · rw [if_pos hz] at h; exact h
      rcases h4 with e | e | e | e
      · rw [check_0 hv e, check_0 hw (by omega)] at h; exact absurd h (by decide)
      · rw [check_1 hv e, check_1 hw (by omega)] at h; exact absurd h (by decide)
      · rw [check_2 hv e, check_2 hw (by omega)] at h; exact absurd h (by decide)
      · rw [pay_3 e, pay_3 (by omega), List.append_assoc, List.append_assoc]
        exact esc_lt _ _ _ _ h
    · rw [h2.1, if_pos (by decide)] at h; exact absurd h (by decide)
  · rw [h1.1, if_pos (by decide)] at h; exact absurd h (by decide)
theorem cmpV_three (v w : Vl) : cmpV v w = -1 ∨ cmpV v w = 0 ∨ cmpV v w = 1 := by
  unfold cmpV cmpL orL orL orL orL
  rcases cmpI_three v.k w.k with h1 | h1 | h1 <;> rcases cmpI_three v.n w.n with h2 | h2 | h2 <;> rcases cb_three v.s.data.toList w.s.data.toList with h3 | h3 | h3
  all_goals (rw [h1.1, h2.1]; first | rw [h3.1] | rw [h3])
  all_goals decide
theorem key_cmp {v w : Vl} (hv : checkV v = 0) (ov : v.Ok) (hw : checkV w = 0) (ow : w.Ok) (x y : List UInt8) (h : cmpV v w ≠ 0) : compareBytes (encV v ++ x) (encV w ++ y) = cmpV v w := by
  rcases cmpV_three v w with e | e | e
  · rw [e]; exact key_lt hv ov hw ow x y e
  · exact absurd e h
  · rw [e, cb_anti, key_lt hw ow hv ov y x (by rw [cmpV_anti, e])]; rfl
/-- The first values that differ tell how the keys stand. -/
theorem keys_cmp {a b : List Vl} {i : Nat} (ga : GoodV a) (gb : GoodV b) (h1 : i < a.length) (h2 : i < b.length) (hp : a.take i = b.take i) (h : cmpV a[i] b[i] ≠ 0) : compareBytes (encL a) (encL b) = cmpV a[i] b[i] := by
  have ea : a = a.take i ++ (a[i] :: a.drop (i + 1)) := by rw [← List.drop_eq_getElem_cons h1, List.take_append_drop]
  have eb : b = b.take i ++ (b[i] :: b.drop (i + 1)) := by rw [← List.drop_eq_getElem_cons h2, List.take_append_drop]
  have ka : encL a = encL (a.take i) ++ (encV a[i] ++ encL (a.drop (i + 1))) := by
    conv => lhs; rw [ea]
    rw [encL_app, encL_cons]
  have kb : encL b = encL (b.take i) ++ (encV b[i] ++ encL (b.drop (i + 1))) := by
    conv => lhs; rw [eb]
    rw [encL_app, encL_cons]
  obtain ⟨q1, q2⟩ := ga _ (List.getElem_mem h1)
  obtain ⟨q3, q4⟩ := gb _ (List.getElem_mem h2)
  rw [ka, kb, hp, cb_same]
  exact key_cmp q1 q2 q3 q4 _ _ h

end Go.Proofs.YtoemmoeedhllfaaDoor.Cd
