/-
  Small lemmas of the walks, over any program: contracts of callees that make memory, regions whose last operations make memory, numbers.
-/
import Derived.Test.YtiaeeahoipakcaaRows
import Derived.WalkKit
import Derived.Deep.QuietTactic
import Derived.BigQuiet
import Derived.StillTailTactics
import Derived.Lib.Hide
import Derived.OpenShut
namespace Go.Proofs.Ytiaeeahoipakcaa.Kit
open Go.RowKit

theorem bcell {W w1 : World} (hb : Below W.heap.size W w1) : (∀ b o, b < W.heap.size → w1.cell? ⟨b, o, none⟩ = W.cell? ⟨b, o, none⟩) ∧ (∀ b o, b < W.heap.size → w1.frozen? ⟨b, o, none⟩ = W.frozen? ⟨b, o, none⟩) :=
  ⟨fun b o h => hb.cell (p := ⟨b, o, none⟩) h, fun b o h => hb.frozen (p := ⟨b, o, none⟩) h⟩

theorem keep {B : Nat} {W w1 : World} (hb : Below B W w1) (b : Nat) (h : b < B) : (∀ o, w1.cell? ⟨b, o, none⟩ = W.cell? ⟨b, o, none⟩) ∧ (∀ o, w1.frozen? ⟨b, o, none⟩ = W.frozen? ⟨b, o, none⟩) :=
  ⟨fun o => hb.cell (p := ⟨b, o, none⟩) h, fun o => hb.frozen (p := ⟨b, o, none⟩) h⟩

/-- Block b of the world holds a value of three cells. -/
structure VAt (w : World) (b : Nat) (k n : Int) (t : ByteArray) : Prop where
  lt : b < w.heap.size
  c0 : w.cell? ⟨b, 0, none⟩ = some (.int .i64 k)
  c1 : w.cell? ⟨b, 1, none⟩ = some (.int .i64 n)
  c2 : w.cell? ⟨b, 2, none⟩ = some (.string t)

theorem VAt.keep {w w' : World} {B b : Nat} {k n : Int} {t : ByteArray} (h : VAt w b k n t) (hb : Below B w w') (hB : b < B) : VAt w' b k n t :=
  ⟨Nat.lt_of_lt_of_le h.lt hb.size, (hb.cell (p := ⟨b, 0, none⟩) hB).trans h.c0, (hb.cell (p := ⟨b, 1, none⟩) hB).trans h.c1, (hb.cell (p := ⟨b, 2, none⟩) hB).trans h.c2⟩

theorem VAt.up {w : World} {b : Nat} {k n : Int} {t : ByteArray} (h : VAt w b k n t) (o : Obj) : VAt (w.alloc o) b k n t :=
  h.keep ((Below.refl w.heap.size w).alloc (Nat.le_refl _) o) h.lt

/-- Over an alloc and a call. -/
theorem VAt.over {w w' : World} {o : Obj} {b : Nat} {k n : Int} {t : ByteArray} (h : VAt w b k n t) (hb : Below (w.alloc o).heap.size (w.alloc o) w') : VAt w' b k n t :=
  (h.up o).keep hb (h.up o).lt

theorem VAt.on {w w' : World} {b : Nat} {k n : Int} {t : ByteArray} (h : VAt w b k n t) (hb : Below w.heap.size w w') : VAt w' b k n t :=
  h.keep hb h.lt

theorem VAt.new (w : World) (k n : Int) (t : ByteArray) (T : TypeId) : VAt (w.alloc (.cells #[.int .i64 k, .int .i64 n, .string t] T)) w.heap.size k n t :=
  ⟨by simp, by go_simp, by go_simp, by go_simp⟩

theorem VAt.newAt (w : World) (b : Nat) (k n : Int) (t : ByteArray) {T : TypeId} (h : b = w.heap.size) : VAt (w.alloc (.cells #[.int .i64 k, .int .i64 n, .string t] T)) b k n t := by
  subst h; exact VAt.new w k n t T

theorem ret_int {k : IntKind} {a b : Int} (h : a = b) : Ending.returned (.int k a) = .returned (.int k b) := by rw [h]

theorem still_tail {P : Program} {id : Nat} {Q : Exit → Act → World → Prop} {a : Act} {w : World} {l : List Oper} (n : Nat) (hm : P.follows .mixedOrders = true) (hB : Region.lexTailB .any l.toArray n = true)
    (h : wpStill P l.toArray w.drew (fun a' => wpList P l.toArray Q (l.drop n) a' w.drew) (l.take n) a) : (Code.region id l.toArray true).wp P Q a w :=
  wp_region_still_tail n hm hB h

/-- Does a number fit? -/
def fits (x : Int) : Bool := decide (-9223372036854775808 ≤ x ∧ x ≤ 9223372036854775807)

theorem wrap_fits {x : Int} (h : fits x = true) : wrap64 x = x := by
  unfold fits at h; simp only [decide_eq_true_eq] at h; unfold wrap64; omega

theorem wrap_bd (x : Int) : -9223372036854775808 ≤ wrap64 x ∧ wrap64 x ≤ 9223372036854775807 := by unfold wrap64; omega

/-! Chains of worlds: nothing that was there has turned. -/
theorem ext_al {a b : World} (h : Below a.heap.size a b) (o : Obj) : Below a.heap.size a (b.alloc o) := h.alloc h.size o
theorem ext_via {a b c : World} (h : Below a.heap.size a b) (h2 : Below b.heap.size b c) : Below a.heap.size a c := h.trans (h2.mono h.size)
theorem ext_dr {a b : World} (h : Below a.heap.size a b) : Below a.heap.size a b.drew := h.drew
theorem ext_drN {a b : World} (n : Nat) (h : Below a.heap.size a b) : Below a.heap.size a (b.drewN n) := ⟨h.os, h.tape, h.output, h.size, h.block⟩
theorem ext_set {a b : World} (h : Below a.heap.size a b) {p : Addr} (hp : a.heap.size ≤ p.block) (v : Value) : Below a.heap.size a (b.setCell p v) := h.setCell hp v

theorem wf_bd {a : Int} (h : (Lit.int .i64 a).wf = true) : -9223372036854775808 ≤ a ∧ a ≤ 9223372036854775807 := bounds_i64 h

/-- Value by value: are they the same? -/
def veqB (k n : Int) (t : ByteArray) (k' n' : Int) (t' : ByteArray) : Bool := k == k' && (n == n' && t.toList == t'.toList)

theorem veq_refl (k n : Int) (t : ByteArray) : veqB k n t k n t = true := by simp [veqB]

/-! A region that draws its order, whose calls may make memory but hand back one value whatever the order. -/
structure Grows (W : World) where
  val : World
  ext : Below W.heap.size W val

instance (W : World) : Nonempty (Grows W) := ⟨⟨W, Below.refl _ _⟩⟩

theorem region_grow {P : Program} {id : Nat} {Q : Exit → Act → World → Prop} {a : Act} {w : World} {l : List Oper} (hm : P.follows .mixedOrders = true) (hB : Region.lexB .any l.toArray = true)
    (h : (∀ (x : Grows w) (b o : Nat), b < w.heap.size → x.val.cell? ⟨b, o, none⟩ = w.cell? ⟨b, o, none⟩) →
      wpQuiet P l.toArray (fun w' => ∃ x : Grows w, w' = x.val) (fun a' => ∀ w', (∃ x : Grows w, w' = x.val) → Q .normal a' w') l a) : (Code.region id l.toArray true).wp P Q a w :=
  wp_region_quiet (C := fun w' => ∃ x : Grows w, w' = x.val) hm hB ⟨⟨w.drew, (Below.refl _ _).drew⟩, rfl⟩ (by simpa using h fun x b o hb => x.ext.cell (p := ⟨b, o, none⟩) hb)

theorem grow_call {P : Program} {f : FuncId} {args : Array Value} {w : World} {v : Value} (x : Grows w) (h : Calls P f args x.val fun e w' => e = .returned v ∧ Below x.val.heap.size x.val w') :
    Calls P f args x.val fun e w'' => e = .returned v ∧ ∃ y : Grows w, w'' = y.1 :=
  h.mono fun _ w' ⟨he, hb⟩ => ⟨he, ⟨w', ext_via x.ext hb⟩, rfl⟩

theorem grow_same {P : Program} {f : FuncId} {args : Array Value} {w : World} {v : Value} (x : Grows w) (h : Calls P f args x.val fun e w' => e = .returned v ∧ w' = x.val) :
    Calls P f args x.val fun e w'' => e = .returned v ∧ ∃ y : Grows w, w'' = y.1 :=
  h.mono fun _ _ ⟨he, hb⟩ => ⟨he, x, hb⟩

end Go.Proofs.Ytiaeeahoipakcaa.Kit
