/-
  A row's reading of an argument, turned to what the walks say of values.
-/
import Derived.Test.YtcogdagfcndbfaaDoorVe
import Derived.Deep.Slices
namespace Go.Proofs.YtcogdagfcndbfaaDoor.V
open Go.RowKit
set_option linter.unusedVariables false

variable {H : Type} {enc : TypeId × Value → H} {P : Program} {w : World} {base : Nat} {sp : Nat → Bool} {held : Bool}

/-- Cells that read by the type are those of some a, of which 'ok' holds. -/
def Rds (enc : TypeId × Value → H) (P : Program) (w : World) (base : Nat) (sp : Nat → Bool) (held : Bool) (t : TypeId) {α : Type} (g : α → List D) (ok : α → Prop) : Prop :=
  ∀ fuel cs x, DataW.trod enc P w base sp held fuel t cs = some x → ∃ a, RepL w (fun _ => False) (g a) cs ∧ ok a

theorem rd_int {t : TypeId} (ht : P.underlying t = some (.int .i64)) : Rds enc P w base sp held t (fun n : Int => [.v (.int .i64 n)]) (fun n => -9223372036854775808 ≤ n ∧ n ≤ 9223372036854775807) := fun fuel cs x h => by
  obtain ⟨n, rfl, _, hw⟩ := DataW.trod_int ht h
  exact ⟨n, RepL.vs w _ [_], wf_bd hw⟩
theorem rd_bool {t : TypeId} (ht : P.underlying t = some .bool) : Rds enc P w base sp held t (fun n : Bool => [.v (.bool n)]) (fun _ => True) := fun fuel cs x h => by
  obtain ⟨n, rfl, _⟩ := DataW.trod_bool ht h
  exact ⟨n, RepL.vs w _ [_], trivial⟩
theorem rd_string {t : TypeId} (ht : P.underlying t = some .string) : Rds enc P w base sp held t (fun n : ByteArray => [.v (.string n)]) (fun s => s.size ≤ maxLen) := fun fuel cs x h => by
  obtain ⟨n, rfl, _, hw⟩ := DataW.trod_string ht h
  exact ⟨n, RepL.vs w _ [_], hw⟩

theorem Rds.map {t : TypeId} {α β : Type} {g : α → List D} {ok : α → Prop} {g' : β → List D} {ok' : β → Prop} (h : Rds enc P w base sp held t g ok) (f : α → β) (hg : ∀ a, g' (f a) = g a) (hok : ∀ a, ok a → ok' (f a)) : Rds enc P w base sp held t g' ok' := fun fuel cs x hx => by
  obtain ⟨a, h1, h2⟩ := h fuel cs x hx
  exact ⟨f a, by rw [hg]; exact h1, hok a h2⟩

theorem RepL.app {L : Nat → Prop} {a b : List D} {u v : List Value} (h : RepL w L a u) (k : RepL w L b v) : RepL w L (a ++ b) (u ++ v) := h.append k

theorem rd_struct3 {t : TypeId} {f0 f1 f2 : Field} {α0 α1 α2 : Type} {g0 : α0 → List D} {g1 : α1 → List D} {g2 : α2 → List D} {k0 : α0 → Prop} {k1 : α1 → Prop} {k2 : α2 → Prop} {n0 n1 n2 : Nat}
    (ht : P.underlying t = some (.struct #[f0, f1, f2])) (hc : P.cellsOf t = n0 + n1 + n2) (o0 : f0.offset = 0) (o1 : f1.offset = n0) (o2 : f2.offset = n0 + n1) (c0 : P.cellsOf f0.type = n0) (c1 : P.cellsOf f1.type = n1) (c2 : P.cellsOf f2.type = n2)
    (r0 : Rds enc P w base sp held f0.type g0 k0) (r1 : Rds enc P w base sp held f1.type g1 k1) (r2 : Rds enc P w base sp held f2.type g2 k2) :
    Rds enc P w base sp held t (fun a : α0 × α1 × α2 => g0 a.1 ++ (g1 a.2.1 ++ g2 a.2.2)) (fun a => k0 a.1 ∧ k1 a.2.1 ∧ k2 a.2.2) := fun fuel cs x h => by
  obtain ⟨xs, n, _, _, hl, hxl, hf⟩ := DataW.trod_struct ht h
  have e0 := hf 0 f0 rfl
  have e1 := hf 1 f1 rfl
  have e2 := hf 2 f2 rfl
  rw [o0, c0, List.drop_zero] at e0
  rw [o1, c1] at e1
  rw [o2, c2] at e2
  have hx3 : xs.length = 3 := hxl
  rw [List.getElem?_eq_getElem (by omega)] at e0 e1 e2
  obtain ⟨a0, p0, q0⟩ := r0 _ _ _ e0
  obtain ⟨a1, p1, q1⟩ := r1 _ _ _ e1
  obtain ⟨a2, p2, q2⟩ := r2 _ _ _ e2
  refine ⟨(a0, a1, a2), ?_, q0, q1, q2⟩
  have hcs : cs = cs.take n0 ++ ((cs.drop n0).take n1 ++ (cs.drop (n0 + n1)).take n2) := by
    rw [← List.drop_drop, List.take_of_length_le (l := List.drop n1 (List.drop n0 cs)) (by rw [List.length_drop, List.length_drop]; omega), List.take_append_drop, List.take_append_drop]
  rw [hcs]
  exact p0.append (p1.append p2)

/-- A slice, as an argument. -/
theorem rd_slice {t e : TypeId} {sz b' : Nat} {α : Type} {g : α → List D} {ok : α → Prop} (ht : P.underlying t = some (.slice e)) (hce : P.cellsOf e = sz) (hsz : 0 < sz) (re : Rds enc P w base sp held e g ok) (hg : ∀ a, (g a).length = sz) {v : Value} {d : DataW H} {p : List MemPlace}
    (hval : Value.okWide P w .any b' t v) (h : DataW.Trod enc P w base sp held t v d p) : ∃ l : List α, Rep w (fun _ => False) (.list sz (l.flatMap g) l.length) v ∧ (∀ x ∈ l, ok x) ∧ l.length ≤ maxLen := by
  have hv : Cell.okWide P w .any b' t v := by unfold Value.okWide at hval; rw [ht] at hval; exact hval
  unfold Cell.okWide at hv
  rw [ht] at hv
  obtain ⟨m, hm⟩ := h
  have hv2 : Cell.ok P w .any b' t v := by revert hv; cases v <;> exact id
  unfold Cell.ok at hv2
  rw [ht] at hv2
  cases v with
  | slice ad len cap =>
    rcases Go.Deep.open_slice ht hm with ⟨h1, _⟩ | ⟨a, len', cap', mm, n, Dd, Pl, h1, hb, hl, hmx, hmm, _, hx⟩
    · have e1 : Value.slice ad len cap = .slice none 0 0 := by simpa [Value.cells] using h1
      rw [e1]
      exact ⟨[], .nil sz, (fun x hx => by cases hx), Nat.zero_le _⟩
    · have e1 : Value.slice ad len cap = .slice (some a) len' cap' := by simpa [Value.cells] using h1
      cases e1
      have hhas : w.has P .any b' a e cap := hv2.2.2
      obtain ⟨_, hspot, row, cells, hsh, _⟩ := hhas
      obtain ⟨b, o, s⟩ := a
      have hspot' : s = none := hspot
      subst hspot'
      have hlt : b < w.heap.size := by
        rcases Nat.lt_or_ge b w.heap.size with h2 | h2
        · exact h2
        · simp [World.shape?, Array.getElem?_eq_none h2] at hsh
      have hle : len ≤ mm := by rw [hmm]; split <;> omega
      have each : ∀ i : Fin len, ∃ a : α, (∃ cs', w.cells? base ((⟨b, o, none⟩ : Addr).add (i.1 * P.cellsOf e)) (P.cellsOf e) = some cs' ∧ RepL w (fun _ => False) (g a) cs') ∧ ok a := fun i => by
        obtain ⟨cs', h1, h2⟩ := hx i.1 (by omega)
        obtain ⟨a, h3, h4⟩ := re _ _ _ h2
        exact ⟨a, ⟨cs', h1, h3⟩, h4⟩
      let l : List α := List.ofFn fun i : Fin len => Classical.choose (each i)
      have hll : l.length = len := by simp [l]
      have hli : ∀ i (hi : i < l.length), (∃ cs', w.cells? base ((⟨b, o, none⟩ : Addr).add (i * P.cellsOf e)) (P.cellsOf e) = some cs' ∧ RepL w (fun _ => False) (g l[i]) cs') ∧ ok l[i] := fun i hi => by
        have := Classical.choose_spec (each ⟨i, by omega⟩)
        simpa [l] using this
      refine ⟨l, ?_, fun x hx => ?_, by omega⟩
      · have key : ∀ k, k < (l.flatMap g).length → ∃ u, w.cell? ⟨b, o + k, none⟩ = some u ∧ ∀ h : k < (l.flatMap g).length, Rep w (fun _ => False) (l.flatMap g)[k] u := fun k hk => by
          rw [fm_len hg] at hk
          have hi : k / sz < l.length := Nat.div_lt_of_lt_mul (by rw [Nat.mul_comm]; exact hk)
          have hj : k % sz < sz := Nat.mod_lt _ hsz
          have hkk : k / sz * sz + k % sz = k := by rw [Nat.mul_comm]; exact Nat.div_add_mod k sz
          obtain ⟨⟨cs', h1, h2⟩, _⟩ := hli _ hi
          obtain ⟨_, h4, h5⟩ := World.cells?_some h1
          have h6 := h5 (k % sz) (by omega)
          have hjl : k % sz < cs'.length := by omega
          rw [List.getElem?_eq_getElem hjl, Go.Deep.add_add, hce, hkk, Addr.add_mid] at h6
          refine ⟨_, h6, fun h => ?_⟩
          have h7 := h2.2 (k % sz) (by rw [hg]; exact hj) hjl
          have h8 := fm_cell hg hi (List.getElem?_eq_getElem (show k % sz < (g l[k / sz]).length by rw [hg]; exact hj))
          rw [hkk, List.getElem?_eq_getElem h] at h8
          rw [Option.some.inj h8]
          exact h7
        have hm2 : len ≤ cap := hl
        have hgoal : Value.slice (some ⟨b, o, none⟩) len cap = Value.slice (some ⟨b, o, none⟩) l.length cap := by rw [hll]
        rw [hgoal]
        refine Rep.list (L := fun _ => False) sz (l.flatMap g) l.length b o cap (fun k => (w.cell? ⟨b, o + k, none⟩).getD undef) (fm_len hg l) (by omega) hmx hlt (fun h => h.elim) (fun k hk => ?_) (fun k hk => ?_)
        · obtain ⟨u, h1, _⟩ := key k hk
          rw [h1]; rfl
        · obtain ⟨u, h1, h2⟩ := key k hk
          simp only [h1, Option.getD_some]
          exact h2 hk
      · obtain ⟨i, hi, rfl⟩ := List.mem_iff_getElem.1 hx
        exact (hli i hi).2
  | _ => exact hv2.elim

theorem VP.runL {G : List (Nat × List Value)} {f : FuncId} {args : List D} {vs : List Value} {r : Value} (h : VP P G f args (.v r))
    (hG : ∀ g ∈ G, g.2 ≠ [] ∧ Tab.TabAt w g.1 g.2) (hr : RepL w (fun _ => False) args vs) : Calls P f vs.toArray w fun e w' => e = .returned r ∧ Below w.heap.size w w' :=
  h.run hG (hr.mono fun b _ _ => ⟨rfl, fun hl => by rcases hl with hl | hl; exact hl; simp [bks] at hl⟩)

end Go.Proofs.YtcogdagfcndbfaaDoor.V
