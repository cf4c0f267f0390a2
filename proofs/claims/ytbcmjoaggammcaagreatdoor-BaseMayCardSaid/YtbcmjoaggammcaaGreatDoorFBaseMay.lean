/-
  The tied card of BaseMay: the walk answers true whatever it is called with, where the listed variables hold what the program lays; here it is laid into its row and its card.
-/
import Derived.Test.YtbcmjoaggammcaaGreatDoorCards
import Derived.Test.YtbcmjoaggammcaaGreatDoorTie
import Derived.Test.YtbcmjoaggammcaaGreatDoorPBaseMay8
import Derived.WalkKit
import Derived.ProofKit
import Derived.OpenShut
import Derived.ShutString
import Derived.ChangeOld
import Derived.Below
import Derived.Lib.SmallJoins
import Derived.Deep.DeepHandedRow
import Derived.Lib.LaidTab
namespace Go.Proofs.YtbcmjoaggammcaaGreatDoor.Tab
open Go.RowKit Go.ChangeShapes
theorem chunks {α : Type} {g : α → List Value} {c : Nat} : ∀ (rs : List α) (cs : List Value), cs.length = rs.length * c → (∀ i (h : i < rs.length), (cs.drop (i * c)).take c = g rs[i]) → cs = rs.flatMap g
  | [], cs, hl, _ => by
    have : cs = [] := List.length_eq_zero_iff.1 (by simpa using hl)
    simp [this]
  | r :: rs, cs, hl, h => by
    have h0 : cs.take c = g r := by
      have h1 := h 0 (by simp)
      simp only [Nat.zero_mul, List.drop_zero] at h1
      exact h1
    have ih := chunks (c := c) rs (cs.drop c) (by rw [List.length_drop, hl, List.length_cons, Nat.add_mul]; omega) (fun i hi => by
      have h1 := h (i + 1) (by simpa using hi)
      rw [List.drop_drop, show c + i * c = (i + 1) * c from by rw [Nat.add_mul]; omega]
      exact h1)
    rw [List.flatMap_cons, ← h0, ← ih, List.take_append_drop]
variable {H : Type} {enc : TypeId × Value → H} {P : Program} {w : World} {base : Nat} {sp : Nat → Bool} {held : Bool}
def Reads (enc : TypeId × Value → H) (P : Program) (w : World) (base : Nat) (sp : Nat → Bool) (held : Bool) (e : TypeId) {α : Type} (f : α → DataW H) (g : α → List Value) : Prop :=
  ∀ (fuel : Nat) (cs : List Value) (x : DataW H × List MemPlace), DataW.trod enc P w base sp held fuel e cs = some x → ∀ r, x.1 = f r → cs = g r
theorem reads_string {e : TypeId} (he : P.underlying e = some .string) : Reads enc P w base sp held e (fun b : List UInt8 => .lit (.string b)) (fun b => [.string ⟨b.toArray⟩]) := by
  intro fuel cs x h r hr
  obtain ⟨s, rfl, rfl, _⟩ := DataW.trod_string he h
  simp at hr
  obtain ⟨⟨s⟩⟩ := s
  simp at hr
  rw [← hr]
theorem reads_arr {α : Type} {f : α → DataW H} {g : α → List Value} {t e : TypeId} {n : Nat} (ht : P.underlying t = some (.array n e)) (hct : P.cellsOf t = n * P.cellsOf e)
    (hin : Reads enc P w base sp held e f g) : Reads enc P w base sp held t (fun rs : List α => .agg (rs.map f)) (fun rs => rs.flatMap g) := by
  intro fuel cs x h rs hr
  obtain ⟨xs, m, _, rfl, hl, hn, hi⟩ := DataW.trod_array ht h
  simp only [DataW.agg.injEq] at hr
  have hrl : rs.length = n := by have := congrArg List.length hr; simp at this; omega
  refine chunks rs cs (by rw [hl, hct, hrl]) fun i hi' => ?_
  have h1 := hi i (by omega)
  rw [List.getElem?_eq_getElem (by omega)] at h1
  refine hin m _ _ h1 _ ?_
  have := congrArg (fun l => l[i]?) hr
  simpa [List.getElem?_eq_getElem hi', List.getElem?_eq_getElem (show i < xs.length by omega)] using this
theorem var_cells {α : Type} {f : α → DataW Unit} {g : α → List Value} {W : World} {n : String} {gi : Nat} {t : TypeId} {cs : Array Value} {fuel : Nat} {p : List MemPlace} {r : α}
    (hg : P.globalNamed n = some gi) (hv : W.var? P n = some cs) (hd : DataW.trod (fun _ => ()) P W 0 (fun _ => true) false fuel t cs.toList = some (f r, p))
    (hin : Reads (fun _ => ()) P W 0 (fun _ => true) false t f g) (i : Nat) (v : Value) (hi : (g r)[i]? = some v) : W.cell? ⟨gi, i, none⟩ = some v := by
  have h := hin _ _ _ hd r rfl
  rw [World.var?_cell hg hv i, ← Array.getElem?_toList, h, hi]
end Go.Proofs.YtbcmjoaggammcaaGreatDoor.Tab
def Go.Proofs.YtbcmjoaggammcaaGreatDoor.Pc.typesB : List (List UInt8) := [[], [66, 79, 79, 76], [73, 78, 84], [84, 69, 88, 84]]
theorem Go.Proofs.YtbcmjoaggammcaaGreatDoor.Cd.len_var {W : World} (hS : W.ShapedOpen Tryz.prog) : ∃ m, ∀ (i : Nat) v, [Value.int .i64 m][i]? = some v → W.cell? ⟨1, i, none⟩ = some v := by
  obtain ⟨m, hm⟩ : ∃ m, W.cell? ⟨1, 0, none⟩ = some (.int .i64 m) := Go.Proofs.cell_of_shapedOpen_int (zero := #[.int .i64 0]) (t := 3) hS (of_decide_eq_true (by kernel_rfl)) (by kernel_rfl) rfl (by kernel_rfl) (by kernel_rfl) Tryz.underlying3
  exact ⟨m, fun k v hk => by
    match k, hk with
    | 0, hk => cases hk; exact hm⟩
namespace Go.Proofs.YtbcmjoaggammcaaGreatDoor.lawBaseMay
open Go.ChangeShapes Go.WideShapes Go.ChangeAt Go.RowKit Go.Joins
open Go.ChangeMaps (open_string shut_string)
set_option linter.unusedVariables false

theorem own : ownKnob Tryz.prog.godebug = none := by kernel_rfl
theorem laidOut : laidOutB Tryz.prog = true := by kernel_rfl
set_option maxRecDepth 100000 in
theorem tables {W : World} (h : laidMetH Tryz.prog Rows.baseMayRow.laid W) : Nm.MarksTab W ∧ Nm.WordsTab W ∧ Pc.TypesTab W := by
  have h1 : laidMet Tryz.prog Rows.baseMayRow.laid W := h
  obtain ⟨ps, ⟨g0, t0, cs0, f0, pp0, qq0, hg0, ht0, hv0, hd0, ⟨g1, t1, cs1, f1, pp1, qq1, hg1, ht1, hv1, hd1, ⟨g2, t2, cs2, f2, pp2, qq2, hg2, ht2, hv2, hd2, ⟨g3, t3, cs3, f3, pp3, qq3, hg3, ht3, hv3, hd3, ⟨g4, t4, cs4, f4, pp4, qq4, hg4, ht4, hv4, hd4, _, _⟩, _⟩, _⟩, _⟩, _⟩, _⟩ := h1
  obtain rfl : g0 = 5 := Option.some.inj (hg0.symm.trans (by kernel_rfl))
  obtain rfl : t0 = 243 := Option.some.inj (ht0.symm.trans (by kernel_rfl))
  obtain rfl : g1 = 3 := Option.some.inj (hg1.symm.trans (by kernel_rfl))
  obtain rfl : t1 = 214 := Option.some.inj (ht1.symm.trans (by kernel_rfl))
  obtain rfl : g2 = 2 := Option.some.inj (hg2.symm.trans (by kernel_rfl))
  obtain rfl : t2 = 183 := Option.some.inj (ht2.symm.trans (by kernel_rfl))
  obtain rfl : g3 = 0 := Option.some.inj (hg3.symm.trans (by kernel_rfl))
  obtain rfl : t3 = 144 := Option.some.inj (ht3.symm.trans (by kernel_rfl))
  obtain rfl : g4 = 4 := Option.some.inj (hg4.symm.trans (by kernel_rfl))
  obtain rfl : t4 = 240 := Option.some.inj (ht4.symm.trans (by kernel_rfl))
  exact ⟨fun i v hi => Tab.var_cells (r := Nm.marksB) hg1 hv1 hd1 (Tab.reads_arr Tryz.underlying214 (by kernel_rfl) (Tab.reads_string Tryz.underlying9)) i v hi, fun i v hi => Tab.var_cells (r := Nm.wordsB) hg2 hv2 hd2 (Tab.reads_arr Tryz.underlying183 (by kernel_rfl) (Tab.reads_string Tryz.underlying9)) i v hi, fun i v hi => Tab.var_cells (r := Pc.typesB) hg3 hv3 hd3 (Tab.reads_arr Tryz.underlying144 (by kernel_rfl) (Tab.reads_string Tryz.underlying9)) i v hi⟩

set_option maxRecDepth 100000 in
theorem contract (H : Type) (enc : TypeId × Value → H) (W : World) (base : Nat) (args : Array Value) (ds gs : List (DataW H)) (before : List MemPlace)
    (hval0 : ∀ (j : Nat) t v, Tryz.f6.params[j]? = some t → args[j]? = some v → Value.okWide Tryz.prog W .any base t v)
    (hW : DataW.Whole enc Tryz.prog Tryz.f6.params.toList Rows.baseMaySpec.vars false W args.toList ds gs before) (hL : laidMetH Tryz.prog Rows.baseMayRow.laid W)
    (hz : (DataW.weightsEach Tryz.prog (Tryz.f6.params.toList ++ (OpenSpec.ofChange Rows.baseMaySpec).bare.plain.varTypes Tryz.prog) (ds ++ gs)).all (· ≤ reachBytes) = true) (hS : W.ShapedOpen Tryz.prog) :
    Calls Tryz.prog 6 args W fun e W' => ∃ v, e = .returned v ∧ Rows.baseMaySpec.post enc Tryz.prog Tryz.f6 false true false false W args v W' := by
  have hval : ∀ (j : Nat) t v, Tryz.f6.params[j]? = some t → args[j]? = some v → Value.okWide Tryz.prog W .any base t v := hval0
  have hW' := hW
  obtain ⟨p, q, hA0, hV, rfl, hfz, hnd⟩ := hW
  have hA : DataW.TrodAll enc Tryz.prog W 0 (fun _ => true) true Tryz.f6.params.toList args.toList ds p := hA0
  rw [Tryz.params6] at hA hval
  obtain ⟨v0, vs0, d0, ds0, p0, q0, hargs, rfl, rfl, h0, r0⟩ := trodAll_cons hA
  obtain ⟨rfl, rfl, rfl⟩ := trodAll_nil r0
  obtain rfl : args = #[v0] := by cases args; simp_all
  obtain ⟨rfl, rfl⟩ := trodVars_none hV
  have k0 := h0
  have lt0 : ∀ x ∈ p0, x.block < W.heap.size := by obtain ⟨m, hm⟩ := k0; exact DataW.trod_lt m _ _ _ hm
  obtain ⟨l0, rr0, ok0, _⟩ := Ba.rd_phrases (hval 0 22 v0 rfl rfl) h0
  clear hA0 hval0
  obtain ⟨m, hm⟩ := Cd.len_var hS
  refine (Ba.walkBaseMay l0 v0 ok0 W (tables hL).1 (tables hL).2.1 (tables hL).2.2 hm rr0).mono fun e W' ⟨he, bel⟩ => ?_
  subst he
  exact ⟨_, rfl, _, _, _, [], _, [], hW', trodAll_mk1 (shut_bool Tryz.underlying4 _), (trodAll_cons_mk (Below.trod laidOut (by kernel_rfl) (of_decide_eq_true (by kernel_rfl)) k0 bel lt0) trodAll_mk0), rfl, bel.frame _, fun h => by cases h⟩

noncomputable def laidWorld (os : Os) : World :=
  { World.holding Tryz.prog os ⟨#[], #[], []⟩ with heap := ((((((World.holding Tryz.prog os ⟨#[], #[], []⟩).heap.modify 5 fun
      | .cells _ t frozen => .cells ([.int .u8 128, .int .u8 191, .int .u8 160, .int .u8 191, .int .u8 128, .int .u8 159, .int .u8 144, .int .u8 191, .int .u8 128, .int .u8 143, .int .u8 0, .int .u8 0, .int .u8 0, .int .u8 0, .int .u8 0, .int .u8 0, .int .u8 0, .int .u8 0, .int .u8 0, .int .u8 0, .int .u8 0, .int .u8 0, .int .u8 0, .int .u8 0, .int .u8 0, .int .u8 0, .int .u8 0, .int .u8 0, .int .u8 0, .int .u8 0, .int .u8 0, .int .u8 0]).toArray t frozen
      | o => o).modify 3 fun
      | .cells _ t frozen => .cells (Nm.marksC).toArray t frozen
      | o => o).modify 2 fun
      | .cells _ t frozen => .cells (Nm.wordsC).toArray t frozen
      | o => o).modify 0 fun
      | .cells _ t frozen => .cells (Pc.typesC).toArray t frozen
      | o => o).modify 4 fun
      | .cells _ t frozen => .cells ((Go.Pinned.utf8FirstZ.map fun (n : Nat) => Value.int .u8 n)).toArray t frozen
      | o => o) }
theorem laid_met (os : Os) : laidMet Tryz.prog Rows.baseMayRow.laid ((laidWorld os).forCall (fun _ _ => 0) ⟨#[], #[.slice none 0 0], []⟩).memory :=
  laidMet_of_run' 8 (by kernel_rfl) (by kernel_rfl)
theorem reads (os : Os) {H : Type} (enc : TypeId × Value → H) : ∃ places, DataW.whole enc Tryz.prog ((laidWorld os).forCall (fun _ _ => 0) ⟨#[], #[.slice none 0 0], []⟩).memory Tryz.f6.params.toList Rows.baseMaySpec.vars false (#[.slice none 0 0] : Array Value).toList 8 = some ([.nil], [], places) :=
  ⟨[], by kernel_rfl⟩

set_option maxRecDepth 100000 in
theorem lifted (os : Os) (started : os.Started) (H : Type) (enc : TypeId × Value → H) (F : Stop.Interp) :
    ReturnsInHanded {} Tryz.checked os 6 .any ((OpenSpec.ofChange Rows.baseMaySpec).preRow enc Tryz.prog Tryz.f6 Rows.baseMayRow.domain false Rows.baseMayRow.laid) (((OpenSpec.ofChange Rows.baseMaySpec).at F).post enc Tryz.prog Tryz.f6 false true false false) := by
  obtain ⟨places, hx⟩ := reads os enc
  refine returnsInHanded_of_row (C := Tryz.checked) (s := OpenSpec.ofChange Rows.baseMaySpec) own started (by kernel_rfl) Tryz.func6
    (witness_row_at (enc := enc) (C := Tryz.checked) false (laidWorld os) #[.slice none 0 0] rfl (by kernel_rfl) (by kernel_rfl) (by kernel_rfl)
      (OpenSpec.preRow_of_cond 8 hx (by kernel_rfl) (fun k hk => by cases hk) (by kernel_rfl) (laid_met os))) ?_
  intro W base args ds gs before hval hW _ _ hz hL hS _
  exact contract H enc W base args ds gs before hval hW hL hz hS

theorem over : Rows.baseMayRow.holds Tryz.pinned (OpenSpec.ofChange Rows.baseMaySpec) :=
  OpenClaim.holds_of_cond 6 Tryz.f6 rfl rfl rfl rfl rfl rfl rfl ⟨rfl, rfl, rfl, rfl, rfl⟩ rfl rfl rfl rfl rfl (by kernel_rfl) Tryz.func6 (by kernel_rfl)
    (of_decide_eq_true (by kernel_rfl)) (by unfold Func.isWrapper; first | (rw [if_pos (by decide +kernel)]; kernel_rfl) | (rw [if_neg (by decide +kernel)]; exact ⟨rfl, rfl⟩))
    (fun os started H enc _ F => by rw [OpenClaim.pre_eq_preRow]; exact lifted os started H enc F)

theorem plainly (f : FuncId) (fn : Func) (hf : Tryz.pinned.checked.prog.funcNamed Rows.baseMayRow.func = some f) (hfn : Tryz.pinned.checked.prog.funcs[f]? = some fn) :
    false = Tryz.pinned.checked.prog.looks [] ∧ ∀ (j : Nat) t, fn.params[j]? = some t → Tryz.pinned.checked.prog.wantsStandIn t = false := by
  obtain rfl : f = 6 := Option.some.inj (hf.symm.trans (by kernel_rfl))
  obtain rfl : fn = Tryz.f6 := (Option.some.inj (Tryz.func6.symm.trans hfn)).symm
  refine ⟨by kernel_rfl, fun j t ht => ?_⟩
  rw [Tryz.params6] at ht
  have hm := Array.mem_of_getElem? ht
  simp at hm
  obtain rfl := hm; exact (show _ = false by kernel_rfl)

/-- The tied card. -/
theorem proved : Rows.BaseMayCardSaid :=
  Claim7.holds_tied_plain_at .later [] _ _ _ _ over (fun _ h => by cases h) (by kernel_rfl) (fun _ h => by cases h) baseMay_row_tie rfl ⟨rfl, rfl⟩ (by kernel_rfl) rfl plainly (by kernel_rfl)
#print axioms proved
end Go.Proofs.YtbcmjoaggammcaaGreatDoor.lawBaseMay
