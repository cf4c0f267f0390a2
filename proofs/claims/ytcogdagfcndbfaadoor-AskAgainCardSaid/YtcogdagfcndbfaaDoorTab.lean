/-
  Out of a row's list of variables: the cells of a table of tables.
-/
import Derived.Test.YtcogdagfcndbfaaDoorRows
import Derived.WalkKit
import Derived.ProofKit
import Derived.OpenShut
import Derived.Lib.LaidTab
namespace Go.Proofs.YtcogdagfcndbfaaDoor.Tab
open Go.RowKit Go.ChangeShapes

theorem chunks {α : Type} {g : α → List Value} {c : Nat} : ∀ (rs : List α) (cs : List Value), cs.length = rs.length * c → (∀ i (h : i < rs.length), (cs.drop (i * c)).take c = g rs[i]) → cs = rs.flatMap g
  | [], cs, hl, _ => by
    have : cs = [] := List.length_eq_zero_iff.1 (by simpa using hl)
    simp [this]
  | r :: rs, cs, hl, h => by
    have h0 : cs.take c = g r := by
      have h1 := h 0 (by simp)
      simp only [Nat.zero_mul, List.drop_zero] at h1
      exact h1
    have ih := chunks (c := c) rs (cs.drop c) (by rw [List.length_drop, hl, List.length_cons, Nat.add_mul]; omega) (fun i hi => by
      have h1 := h (i + 1) (by simpa using hi)
      rw [List.drop_drop, show c + i * c = (i + 1) * c from by rw [Nat.add_mul]; omega]
      exact h1)
    rw [List.flatMap_cons, ← h0, ← ih, List.take_append_drop]

variable {H : Type} {enc : TypeId × Value → H} {P : Program} {w : World} {base : Nat} {sp : Nat → Bool} {held : Bool}

/-- Whoever reads as 'f r' at type e has the cells 'g r'. -/
def Reads (enc : TypeId × Value → H) (P : Program) (w : World) (base : Nat) (sp : Nat → Bool) (held : Bool) (e : TypeId) {α : Type} (f : α → DataW H) (g : α → List Value) : Prop :=
  ∀ (fuel : Nat) (cs : List Value) (x : DataW H × List MemPlace), DataW.trod enc P w base sp held fuel e cs = some x → ∀ r, x.1 = f r → cs = g r

theorem reads_bool {e : TypeId} (he : P.underlying e = some .bool) : Reads enc P w base sp held e (fun b : Bool => .lit (.bool b)) (fun b => [.bool b]) := by
  intro fuel cs x h r hr
  obtain ⟨b, rfl, rfl⟩ := DataW.trod_bool he h
  simp at hr
  rw [hr]

theorem reads_int {e : TypeId} {k : IntKind} (he : P.underlying e = some (.int k)) : Reads enc P w base sp held e (fun b : Int => .lit (.int k b)) (fun b => [.int k b]) := by
  intro fuel cs x h r hr
  obtain ⟨b, rfl, rfl, _⟩ := DataW.trod_int he h
  simp at hr
  rw [hr]

theorem reads_string {e : TypeId} (he : P.underlying e = some .string) : Reads enc P w base sp held e (fun b : List UInt8 => .lit (.string b)) (fun b => [.string ⟨b.toArray⟩]) := by
  intro fuel cs x h r hr
  obtain ⟨s, rfl, rfl, _⟩ := DataW.trod_string he h
  simp at hr
  obtain ⟨⟨s⟩⟩ := s
  simp at hr
  rw [← hr]

theorem reads_arr {α : Type} {f : α → DataW H} {g : α → List Value} {t e : TypeId} {n : Nat} (ht : P.underlying t = some (.array n e)) (hct : P.cellsOf t = n * P.cellsOf e)
    (hin : Reads enc P w base sp held e f g) : Reads enc P w base sp held t (fun rs : List α => .agg (rs.map f)) (fun rs => rs.flatMap g) := by
  intro fuel cs x h rs hr
  obtain ⟨xs, m, _, rfl, hl, hn, hi⟩ := DataW.trod_array ht h
  simp only [DataW.agg.injEq] at hr
  have hrl : rs.length = n := by have := congrArg List.length hr; simp at this; omega
  refine chunks rs cs (by rw [hl, hct, hrl]) fun i hi' => ?_
  have h1 := hi i (by omega)
  rw [List.getElem?_eq_getElem (by omega)] at h1
  refine hin m _ _ h1 _ ?_
  have := congrArg (fun l => l[i]?) hr
  simpa [List.getElem?_eq_getElem hi', List.getElem?_eq_getElem (show i < xs.length by omega)] using this

/-- The cells of a listed variable. -/
theorem var_cells {α : Type} {f : α → DataW Unit} {g : α → List Value} {W : World} {n : String} {gi : Nat} {t : TypeId} {cs : Array Value} {fuel : Nat} {p : List MemPlace} {r : α}
    (hg : P.globalNamed n = some gi) (hv : W.var? P n = some cs) (hd : DataW.trod (fun _ => ()) P W 0 (fun _ => true) false fuel t cs.toList = some (f r, p))
    (hin : Reads (fun _ => ()) P W 0 (fun _ => true) false t f g) (i : Nat) (v : Value) (hi : (g r)[i]? = some v) : W.cell? ⟨gi, i, none⟩ = some v := by
  have h := hin _ _ _ hd r rfl
  rw [World.var?_cell hg hv i, ← Array.getElem?_toList, h, hi]

/-- A row of cells lies at the head of a block. -/
def TabAt (w : World) (g : Nat) (l : List Value) : Prop := ∀ i v, l[i]? = some v → w.cell? ⟨g, i, none⟩ = some v

theorem TabAt.on {w w' : World} {g : Nat} {l : List Value} (h : TabAt w g l) (hb : Below w.heap.size w w') : TabAt w' g l :=
  fun i v hi => (hb.cell (World.block_lt_of_cell? w _ (h i v hi))).trans (h i v hi)

end Go.Proofs.YtcogdagfcndbfaaDoor.Tab
