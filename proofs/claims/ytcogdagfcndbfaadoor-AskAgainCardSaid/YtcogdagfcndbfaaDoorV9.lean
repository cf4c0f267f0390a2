/-
  A walk at the level of values. Part 9: what the operators answer.
-/
import Derived.Test.YtcogdagfcndbfaaDoorV8
import Derived.IntWalk
namespace Go.Proofs.YtcogdagfcndbfaaDoor.V
open Go.RowKit
set_option linter.unusedVariables false
set_option linter.unusedSimpArgs false

variable {P : Program}

theorem bin_int {op : BinOp} {t : TypeId} {k : IntKind} {a b r : Int} (h : (op = .add ∧ k.wrap (a + b) = r) ∨ (op = .sub ∧ k.wrap (a - b) = r) ∨ (op = .mul ∧ k.wrap (a * b) = r)) : BinOK P op t (.int k a) (.int k b) (.int k r) := fun y z w => by
  rcases h with ⟨rfl, h⟩ | ⟨rfl, h⟩ | ⟨rfl, h⟩ <;> simp [eqGuard, binOp, Op.intArith, h]

theorem bin_add {t : TypeId} {k : IntKind} {a b r : Int} (h : k.wrap (a + b) = r) : BinOK P .add t (.int k a) (.int k b) (.int k r) := bin_int (.inl ⟨rfl, h⟩)
theorem bin_sub {t : TypeId} {k : IntKind} {a b r : Int} (h : k.wrap (a - b) = r) : BinOK P .sub t (.int k a) (.int k b) (.int k r) := bin_int (.inr (.inl ⟨rfl, h⟩))
theorem bin_mul {t : TypeId} {k : IntKind} {a b r : Int} (h : k.wrap (a * b) = r) : BinOK P .mul t (.int k a) (.int k b) (.int k r) := bin_int (.inr (.inr ⟨rfl, h⟩))
theorem bin_lss {t : TypeId} {k : IntKind} {a b : Int} : BinOK P .lss t (.int k a) (.int k b) (.bool (decide (a < b))) := fun y z w => by simp [eqGuard, binOp, Op.intCmp]
theorem bin_leq {t : TypeId} {k : IntKind} {a b : Int} : BinOK P .leq t (.int k a) (.int k b) (.bool (decide (a ≤ b))) := fun y z w => by simp [eqGuard, binOp, Op.intCmp]
theorem bin_gtr {t : TypeId} {k : IntKind} {a b : Int} : BinOK P .gtr t (.int k a) (.int k b) (.bool (decide (a > b))) := fun y z w => by simp [eqGuard, binOp, Op.intCmp]
theorem bin_geq {t : TypeId} {k : IntKind} {a b : Int} : BinOK P .geq t (.int k a) (.int k b) (.bool (decide (a ≥ b))) := fun y z w => by simp [eqGuard, binOp, Op.intCmp]
theorem bin_eql {t : TypeId} {k : IntKind} {a b : Int} : BinOK P .eql t (.int k a) (.int k b) (.bool (a == b)) := fun y z w => by simp [eqGuard, binOp, Op.intCmp]
theorem bin_neq {t : TypeId} {k : IntKind} {a b : Int} : BinOK P .neq t (.int k a) (.int k b) (.bool (a != b)) := fun y z w => by simp [eqGuard, binOp, Op.intCmp]
theorem bin_quo {t : TypeId} {k : IntKind} {a b r : Int} (hb : b ≠ 0) (h : k.wrap (a.tdiv b) = r) : BinOK P .quo t (.int k a) (.int k b) (.int k r) := fun y z w => by simp [eqGuard, binOp, Op.intDiv, hb, h]
theorem bin_rem {t : TypeId} {k : IntKind} {a b : Int} (hb : b ≠ 0) : BinOK P .rem t (.int k a) (.int k b) (.int k (a.tmod b)) := fun y z w => by simp [eqGuard, binOp, Op.intDiv, hb]

theorem bin_seql {t : TypeId} {a b : ByteArray} : BinOK P .eql t (.string a) (.string b) (.bool (a.toList == b.toList)) := fun y z w => by simp [eqGuard, binOp, Op.stringOp]
theorem bin_sneq {t : TypeId} {a b : ByteArray} : BinOK P .neq t (.string a) (.string b) (.bool (!(a.toList == b.toList))) := fun y z w => by simp [eqGuard, binOp, Op.stringOp]
theorem bin_slss {t : TypeId} {a b : ByteArray} : BinOK P .lss t (.string a) (.string b) (.bool (Op.bytesLess a.toList b.toList)) := fun y z w => by simp [eqGuard, binOp, Op.stringOp]
theorem bin_sleq {t : TypeId} {a b : ByteArray} : BinOK P .leq t (.string a) (.string b) (.bool (Op.bytesLess a.toList b.toList || a.toList == b.toList)) := fun y z w => by simp [eqGuard, binOp, Op.stringOp]
theorem bin_sgtr {t : TypeId} {a b : ByteArray} : BinOK P .gtr t (.string a) (.string b) (.bool (!(Op.bytesLess a.toList b.toList || a.toList == b.toList))) := fun y z w => by simp [eqGuard, binOp, Op.stringOp]
theorem bin_sgeq {t : TypeId} {a b : ByteArray} : BinOK P .geq t (.string a) (.string b) (.bool (!Op.bytesLess a.toList b.toList)) := fun y z w => by simp [eqGuard, binOp, Op.stringOp]
theorem bin_cat {t : TypeId} {a b : ByteArray} (h : a.size + b.size ≤ 9223372036854775807) : BinOK P .add t (.string a) (.string b) (.string (a ++ b)) := fun y z w => by
  have : ¬ (((a.size + b.size : Nat) : Int) > IntKind.i64.max) := by
    have : IntKind.i64.max = 9223372036854775807 := rfl
    omega
  simp only [eqGuard, binOp, Op.stringOp, Sem.run_bind]
  simp only [this, if_false]
  simp

theorem bin_beql {t : TypeId} {a b : Bool} (hu : P.underlying t = some .bool) : BinOK P .eql t (.bool a) (.bool b) (.bool (a == b)) := fun y z w => by
  have : binOp .eql t (.bool a) (.bool b) = (do pure (.bool (← Op.equal t (.bool a) (.bool b)))) := rfl
  simp only [eqGuard, this, Sem.run_bind]
  simp [run_equal_bool w t a b hu]
theorem bin_bneq {t : TypeId} {a b : Bool} (hu : P.underlying t = some .bool) : BinOK P .neq t (.bool a) (.bool b) (.bool (!(a == b))) := fun y z w => by
  have : binOp .neq t (.bool a) (.bool b) = (do pure (.bool (!(← Op.equal t (.bool a) (.bool b))))) := rfl
  simp only [eqGuard, this, Sem.run_bind]
  simp [run_equal_bool w t a b hu]

theorem Rep.flats {w : World} {L : Nat → Prop} {us : List Value} {v : Value} (h : Rep w L (.agg (us.map .v)) v) : v = .agg us.toArray := by
  cases h with
  | agg _ vs hl hr =>
    congr 1
    congr 1
    refine List.ext_getElem (by simpa using hl) fun i h1 h2 => ?_
    have := hr i (by simpa using h2) h1
    simp only [List.getElem_map] at this
    exact this.v_eq

section
variable {G : List (Nat × List Value)} {x : St} {o : Oper}

/-- Two structs of plain cells: are they the same? -/
theorem still_eqS {t t' : TypeId} {y z : Operand} {us us' : List Value} {r : Bool} (ho : o.op = .binOp .eql t y z t') (hy : opd x y = .agg (us.map .v)) (hz : opd x z = .agg (us'.map .v)) (hg : P.eqGuardType P.depth t = false)
    (hE : ∀ w, (Op.equalIn 10000 t (.agg us.toArray) (.agg us'.toArray)).run P w = .ok r w) : Still P G x o .none (.v (.bool r)) := fun C a w _ h => by
  have h1 := h.eval y
  have h2 := h.eval z
  rw [hy] at h1
  rw [hz] at h2
  refine ⟨_, .v _, fun w' _ => ?_⟩
  unfold execOp
  simp only [ho, h1.flats, h2.flats, Sem.run_bind, run_eqGuard_agg _ _ _ _ _ _ _ hg, Result.andThen_ok, run_eql_struct, hE, Sem.run_pure]

theorem still_neS {t t' : TypeId} {y z : Operand} {us us' : List Value} {r : Bool} (ho : o.op = .binOp .neq t y z t') (hy : opd x y = .agg (us.map .v)) (hz : opd x z = .agg (us'.map .v)) (hg : P.eqGuardType P.depth t = false)
    (hE : ∀ w, (Op.equalIn 10000 t (.agg us.toArray) (.agg us'.toArray)).run P w = .ok r w) : Still P G x o .none (.v (.bool !r)) := fun C a w _ h => by
  have h1 := h.eval y
  have h2 := h.eval z
  rw [hy] at h1
  rw [hz] at h2
  refine ⟨_, .v _, fun w' _ => ?_⟩
  unfold execOp
  simp only [ho, h1.flats, h2.flats, Sem.run_bind, run_eqGuard_agg _ _ _ _ _ _ _ hg, Result.andThen_ok, run_neq_struct, hE, Sem.run_pure]

def byteD (b : UInt8) : D := .v (.int .u8 (b.toNat : Int))

/-- string(b). -/
theorem still_ofBytes {s t e : TypeId} {y : Operand} {bs : List UInt8} {n : Nat} (ho : o.op = .convert s t y) (hy : opd x y = .list 1 (bs.map byteD) n) (hs : P.underlying s = some (.slice e)) (he : P.underlying e = some (.int .u8)) (ht : P.underlying t = some .string) :
    Still P G x o .imm (.v (.string ⟨bs.toArray⟩)) := fun C a w _ h => by
  have hr := h.eval y
  rw [hy] at hr
  generalize hg : a.eval y = u at hr
  generalize hcs : bs.map byteD = cs at hr
  cases hr with
  | nil =>
    have : bs = [] := by simpa using hcs
    subst this
    refine ⟨_, .v _, fun w' _ => ?_⟩
    unfold execOp
    simp only [ho, hg, Sem.run_bind, run_convert_bytes_string w' s t e none 0 0 hs he ht]
    simp [Conv.bytesToString]
    rfl
  | list _ _ _ b o'' cap g hl q1 q2 hb hL hc hrr =>
    subst hcs
    simp only [List.length_map, Nat.mul_one] at hl hc
    refine ⟨_, .v _, fun w' hw => ?_⟩
    unfold execOp
    have hrun := run_convert_bytes_back (P := P) w' s t e ⟨b, o'', none⟩ cap bs hs he ht (fun j hj => by
      rw [Addr.add_mid]
      have hh := World.cell?_of_block (w := w) (a := ⟨b, o'' + j, none⟩) (hw b hb hL)
      rw [hh, hc j hj]
      have := hrr j (by simpa using hj)
      simp only [List.getElem_map, byteD] at this
      rw [this.v_eq])
    rw [hl] at hrun
    simp only [ho, hg, Sem.run_bind, hrun, Result.andThen_ok, Sem.run_pure]
end

theorem un_not {b : Bool} : ∀ w, (Op.unary .not (.bool b)).run P w = .ok (.bool !b) w := fun w => rfl
theorem un_neg {k : IntKind} {a r : Int} (h : k.wrap (0 - a) = r) : ∀ w, (Op.unary .neg (.int k a)).run P w = .ok (.int k r) w := fun w => by
  subst h; rfl

/-- A number of another kind. -/
theorem conv_int {s t : TypeId} {k k' : IntKind} {a r : Int} {d : TypeDesc} (hs : ∀ w, (underlying s).run P w = .ok d w) (ht : ∀ w, (underlying t).run P w = .ok (.int k') w) (h : k'.wrap a = r) : ∀ w, (convert s t (.int k a)).run P w = .ok (.int k' r) w := fun w => by
  subst h
  simp [convert, hs, ht, Conv.intToInt]

theorem wrap_i64 {x : Int} (h1 : -9223372036854775808 ≤ x) (h2 : x ≤ 9223372036854775807) : IntKind.i64.wrap x = x := IntWalk.i64_in _ (by omega)

theorem mm_min {ts : Array TypeId} {ty : TypeId} {k : IntKind} {a b : Int} : ∀ cs w, (builtin .min ts ty cs #[.int k a, .int k b]).run P w = .ok (.value (.int k (if b < a then b else a))) w := fun cs w => by
  simp [builtin, Builtin.min_, Builtin.min2]
theorem mm_max {ts : Array TypeId} {ty : TypeId} {k : IntKind} {a b : Int} : ∀ cs w, (builtin .max ts ty cs #[.int k a, .int k b]).run P w = .ok (.value (.int k (if a < b then b else a))) w := fun cs w => by
  simp [builtin, Builtin.max_, Builtin.max2]

end Go.Proofs.YtcogdagfcndbfaaDoor.V
