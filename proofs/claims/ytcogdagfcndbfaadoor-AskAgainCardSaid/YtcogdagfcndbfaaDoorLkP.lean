/-
  Locks, plainly: what package lock computes, as functions on lists; no program in sight.
-/
import Derived.Test.YtcogdagfcndbfaaDoorModeP
namespace Go.Proofs.YtcogdagfcndbfaaDoor.Lk
set_option linter.unusedVariables false
set_option linter.unusedSimpArgs false

/-- A lock. -/
structure L where
  t : Int
  th : ByteArray
  m : Int

def hasK (t : Int) (th : ByteArray) (x : L) : Bool := x.t == t && x.th.toList == th.toList
def findI (l : List L) (t : Int) (th : ByteArray) : Int := match l.findIdx? (hasK t th) with | some i => i | none => -1
def clash (x h : L) : Bool := h.th.toList == x.th.toList && (h.t != x.t && !fitsF h.m x.m)
def freeB (held : List L) (x : L) : Bool := !held.any (clash x)
def shapeF (l : L) : Int := if l.t < 1 ∨ l.t > 1048576 then 3 else if l.th.size > 120 then 1 else if modeB l.m = false then 2 else 0
def onTh (q x : L) : Bool := x.th.toList == q.th.toList
def firstQ (held before : List L) (q : L) : Bool := freeB held q && (decide (0 ≤ findI held q.t q.th) || !before.any (onTh q))

def badH (held : List L) (i : Nat) (h : L) : Bool := decide (0 ≤ findI (held.take i) h.t h.th) || !freeB held h
def ownM (held : List L) (q : L) : Option Int := (held.find? (hasK q.t q.th)).map (·.m)
def wrongQ (held : List L) (q : L) : Bool := match ownM held q with | some m => joinsF m q.m != q.m || m == q.m | none => false
def badQ (held queue : List L) (i : Nat) (q : L) : Bool := shapeF q != 0 || (queue.take i).any (fun x => x.t == q.t) || wrongQ held q || firstQ held (queue.take i) q

structure Good (held queue : List L) : Prop where
  few : held.length + queue.length ≤ 200
  shape : ∀ h ∈ held, shapeF h = 0
  heldOk : ∀ i (hi : i < held.length), badH held i held[i] = false
  queueOk : ∀ i (hi : i < queue.length), badQ held queue i queue[i] = false

def haveL (held : List L) (x : L) : List L :=
  match held.findIdx? (hasK x.t x.th) with
  | some k => held.modify k (fun h => { h with m := x.m })
  | none => held ++ [x]

/-- What Ask answers, where the locks may be and the wish is in shape and does not wait already. -/
def askG (held queue : List L) (x : L) : List L × List L × Bool × Int :=
  let x' : L := match ownM held x with | some m => { x with m := joinsF m x.m } | none => x
  if ownM held x = some x'.m then (held, queue, true, 0)
  else if firstQ held queue x' then (if (haveL held x').length + queue.length > 200 then ([], [], false, 10) else (haveL held x', queue, true, 0))
  else if held.length + (queue.length + 1) > 200 then ([], [], false, 10)
  else (held, queue ++ [x'], false, 0)

def wake (held queue : List L) (i : Nat) (woken : List Int) : List L × List L × List Int :=
  if h : i < queue.length then
    if firstQ held (queue.take i) queue[i] then wake (haveL held queue[i]) (queue.eraseIdx i) 0 (woken ++ [queue[i].t])
    else wake held queue (i + 1) woken
  else (held, queue, woken)
termination_by (queue.length, queue.length - i)
decreasing_by
  · apply Prod.Lex.left; rw [List.length_eraseIdx_of_lt h]; omega
  · apply Prod.Lex.right; omega

def leaveG (held queue : List L) (t : Int) : List L × List L × List Int := wake (held.filter (·.t != t)) (queue.filter (·.t != t)) 0 []

/-! ### What is free, what stands first -/

theorem hasK_iff {t : Int} {th : ByteArray} {x : L} : hasK t th x = true ↔ x.t = t ∧ x.th.toList = th.toList := by simp [hasK]

theorem findI_neg {l : List L} {t : Int} {th : ByteArray} : findI l t th < 0 ↔ ∀ x ∈ l, hasK t th x = false := by
  unfold findI
  cases h : l.findIdx? (hasK t th) with
  | none => simpa using List.findIdx?_eq_none_iff.1 h
  | some i =>
    simp only [show ¬ ((i : Int) < 0) from by omega, false_iff]
    intro q
    rw [List.findIdx?_eq_none_iff.2 q] at h
    cases h

theorem findI_nn {l : List L} {t : Int} {th : ByteArray} : 0 ≤ findI l t th ↔ ∃ x ∈ l, hasK t th x = true := by
  have := @findI_neg l t th
  constructor
  · intro h
    apply Classical.byContradiction
    intro hn
    have : findI l t th < 0 := this.2 (fun x hx => by
      cases hq : hasK t th x with
      | false => rfl
      | true => exact absurd ⟨x, hx, hq⟩ hn)
    omega
  · rintro ⟨x, hx, hq⟩
    apply Classical.byContradiction
    intro hn
    have := this.1 (by omega) x hx
    rw [hq] at this; cases this

theorem fiveM {m : Int} (h : modeB m = true) : m = 1 ∨ m = 2 ∨ m = 3 ∨ m = 4 ∨ m = 5 := by have := modeB_bd h; omega

/-- A greater mode goes with less. -/
theorem fits_anti {a b c : Int} (ha : modeB a = true) (hb : modeB b = true) (hc : modeB c = true) (h : fitsF (joinsF a b) c = true) : fitsF a c = true ∧ fitsF b c = true := by
  revert h
  rcases fiveM ha with rfl | rfl | rfl | rfl | rfl <;> rcases fiveM hb with rfl | rfl | rfl | rfl | rfl <;> rcases fiveM hc with rfl | rfl | rfl | rfl | rfl <;> decide
theorem join_mode {a b : Int} (ha : modeB a = true) (hb : modeB b = true) : modeB (joinsF a b) = true := by
  rcases fiveM ha with rfl | rfl | rfl | rfl | rfl <;> rcases fiveM hb with rfl | rfl | rfl | rfl | rfl <;> decide
theorem join_idem {a b : Int} (ha : modeB a = true) (hb : modeB b = true) : joinsF a (joinsF a b) = joinsF a b := by
  rcases fiveM ha with rfl | rfl | rfl | rfl | rfl <;> rcases fiveM hb with rfl | rfl | rfl | rfl | rfl <;> decide
theorem fits_sym {a b : Int} (ha : modeB a = true) (hb : modeB b = true) : fitsF a b = fitsF b a := by
  rcases fiveM ha with rfl | rfl | rfl | rfl | rfl <;> rcases fiveM hb with rfl | rfl | rfl | rfl | rfl <;> decide

theorem shape_iff {x : L} : shapeF x = 0 ↔ (1 ≤ x.t ∧ x.t ≤ 1048576) ∧ x.th.size ≤ 120 ∧ modeB x.m = true := by
  unfold shapeF
  cases h : modeB x.m <;> simp <;> split <;> (try split) <;> (try simp) <;> omega

end Go.Proofs.YtcogdagfcndbfaaDoor.Lk
