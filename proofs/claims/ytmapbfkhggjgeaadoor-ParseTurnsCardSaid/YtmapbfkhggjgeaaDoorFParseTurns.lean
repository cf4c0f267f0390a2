/-
  The tied card of ParseTurns: the walk answers true whatever it is called with, where the listed variables hold what the program lays; here it is laid into its row and its card.
-/
import Derived.Test.YtmapbfkhggjgeaaDoorCards
import Derived.Test.YtmapbfkhggjgeaaDoorTie
import Derived.Test.YtmapbfkhggjgeaaDoorPGP5
import Derived.WalkKit
import Derived.ProofKit
import Derived.OpenShut
import Derived.ShutString
import Derived.ChangeOld
import Derived.Below
import Derived.Lib.SmallJoins
import Derived.Deep.DeepHandedRow
import Derived.Lib.LaidTab
namespace Go.Proofs.YtmapbfkhggjgeaaDoor.lawParseTurns
open Go.ChangeShapes Go.WideShapes Go.ChangeAt Go.RowKit Go.Joins
open Go.ChangeMaps (open_string shut_string)
set_option linter.unusedVariables false

theorem own : ownKnob Tryd.prog.godebug = none := by kernel_rfl
theorem laidOut : laidOutB Tryd.prog = true := by kernel_rfl
set_option maxRecDepth 100000 in
theorem tables {W : World} (h : laidMetH Tryd.prog Rows.parseTurnsRow.laid W) : Nm.MarksTab W ∧ Nm.WordsTab W ∧ Pa.TypesTab W ∧ Pa.CmpTab W := by
  have h1 : laidMet Tryd.prog Rows.parseTurnsRow.laid W := h
  obtain ⟨ps, ⟨g0, t0, cs0, f0, pp0, qq0, hg0, ht0, hv0, hd0, ⟨g1, t1, cs1, f1, pp1, qq1, hg1, ht1, hv1, hd1, ⟨g2, t2, cs2, f2, pp2, qq2, hg2, ht2, hv2, hd2, ⟨g3, t3, cs3, f3, pp3, qq3, hg3, ht3, hv3, hd3, _, _⟩, _⟩, _⟩, _⟩, _⟩ := h1
  obtain rfl : g0 = 0 := Option.some.inj (hg0.symm.trans (by kernel_rfl))
  obtain rfl : t0 = 58 := Option.some.inj (ht0.symm.trans (by kernel_rfl))
  obtain rfl : g1 = 2 := Option.some.inj (hg1.symm.trans (by kernel_rfl))
  obtain rfl : t1 = 86 := Option.some.inj (ht1.symm.trans (by kernel_rfl))
  obtain rfl : g2 = 1 := Option.some.inj (hg2.symm.trans (by kernel_rfl))
  obtain rfl : t2 = 76 := Option.some.inj (ht2.symm.trans (by kernel_rfl))
  obtain rfl : g3 = 3 := Option.some.inj (hg3.symm.trans (by kernel_rfl))
  obtain rfl : t3 = 99 := Option.some.inj (ht3.symm.trans (by kernel_rfl))
  exact ⟨fun i v hi => Tab.var_cells (r := Nm.marksB) hg0 hv0 hd0 (Tab.reads_arr Tryd.underlying58 (by kernel_rfl) (Tab.reads_string Tryd.underlying9)) i v hi, fun i v hi => Tab.var_cells (r := Nm.wordsB) hg1 hv1 hd1 (Tab.reads_arr Tryd.underlying86 (by kernel_rfl) (Tab.reads_string Tryd.underlying9)) i v hi, fun i v hi => Tab.var_cells (r := Pa.typesB) hg2 hv2 hd2 (Tab.reads_arr Tryd.underlying76 (by kernel_rfl) (Tab.reads_string Tryd.underlying9)) i v hi, fun i v hi => Tab.var_cells (r := Pa.cmpB) hg3 hv3 hd3 (Tab.reads_arr Tryd.underlying99 (by kernel_rfl) (Tab.reads_four Tryd.underlying98 (by kernel_rfl) rfl rfl rfl rfl (by kernel_rfl) (by kernel_rfl) (by kernel_rfl) (by kernel_rfl) (Tab.reads_string Tryd.underlying9) (Tab.reads_int Tryd.underlying3) (Tab.reads_bool Tryd.underlying4) (Tab.reads_bool Tryd.underlying4))) i v hi⟩

set_option maxRecDepth 100000 in
theorem contract (H : Type) (enc : TypeId × Value → H) (W : World) (base : Nat) (args : Array Value) (ds gs : List (DataW H)) (before : List MemPlace)
    (hval0 : ∀ (j : Nat) t v, Tryd.f3.params[j]? = some t → args[j]? = some v → Value.okWide Tryd.prog W .any base t v)
    (hW : DataW.Whole enc Tryd.prog Tryd.f3.params.toList Rows.parseTurnsSpec.vars false W args.toList ds gs before) (hL : laidMetH Tryd.prog Rows.parseTurnsRow.laid W)
    (hz : (DataW.weightsEach Tryd.prog (Tryd.f3.params.toList ++ (OpenSpec.ofChange Rows.parseTurnsSpec).bare.plain.varTypes Tryd.prog) (ds ++ gs)).all (· ≤ reachBytes) = true) (hS : W.ShapedOpen Tryd.prog) :
    Calls Tryd.prog 3 args W fun e W' => ∃ v, e = .returned v ∧ Rows.parseTurnsSpec.post enc Tryd.prog Tryd.f3 false true false false W args v W' := by
  have hval : ∀ (j : Nat) t v, Tryd.f3.params[j]? = some t → args[j]? = some v → Value.okWide Tryd.prog W .any base t v := hval0
  have hW' := hW
  obtain ⟨p, q, hA0, hV, rfl, hfz, hnd⟩ := hW
  have hA : DataW.TrodAll enc Tryd.prog W 0 (fun _ => true) true Tryd.f3.params.toList args.toList ds p := hA0
  rw [Tryd.params3] at hA hval
  obtain ⟨v0, vs0, d0, ds0, p0, q0, hargs, rfl, rfl, h0, r0⟩ := trodAll_cons hA
  obtain ⟨v1, vs1, d1, ds1, p1, q1, rfl, rfl, rfl, h1, r1⟩ := trodAll_cons r0
  obtain ⟨rfl, rfl, rfl⟩ := trodAll_nil r1
  obtain rfl : args = #[v0, v1] := by cases args; simp_all
  obtain ⟨rfl, rfl⟩ := trodVars_none hV
  have k0 := h0
  have lt0 : ∀ x ∈ p0, x.block < W.heap.size := by obtain ⟨m, hm⟩ := k0; exact DataW.trod_lt m _ _ _ hm
  have k1 := h1
  have lt1 : ∀ x ∈ p1, x.block < W.heap.size := by obtain ⟨m, hm⟩ := k1; exact DataW.trod_lt m _ _ _ hm
  obtain ⟨a0, rfl, _, _, w0⟩ := open_int Tryd.underlying3 (hval 0 3 v0 rfl rfl) h0
  obtain ⟨a1, rfl, _, _, w1⟩ := open_int Tryd.underlying3 (hval 1 3 v1 rfl rfl) h1
  clear hA0 hval0
  refine (Pa.walkParseTurns a0 w0 a1 w1 W (tables hL).1 (tables hL).2.1 (tables hL).2.2.1 (tables hL).2.2.2).mono fun e W' ⟨he, bel⟩ => ?_
  subst he
  exact ⟨_, rfl, _, _, _, [], _, [], hW', trodAll_mk1 (shut_bool Tryd.underlying4 _), (trodAll_cons_mk (Below.trod laidOut (by kernel_rfl) (of_decide_eq_true (by kernel_rfl)) k0 bel lt0) (trodAll_cons_mk (Below.trod laidOut (by kernel_rfl) (of_decide_eq_true (by kernel_rfl)) k1 bel lt1) trodAll_mk0)), rfl, bel.frame _, fun h => by cases h⟩

/-- A world for the witness: the tables hold what their initialisers lay. -/
noncomputable def laidWorld (os : Os) : World :=
  { World.holding Tryd.prog os ⟨#[], #[], []⟩ with heap := (((((World.holding Tryd.prog os ⟨#[], #[], []⟩).heap.modify 0 fun
      | .cells _ t frozen => .cells (Nm.marksC).toArray t frozen
      | o => o).modify 2 fun
      | .cells _ t frozen => .cells (Nm.wordsC).toArray t frozen
      | o => o).modify 1 fun
      | .cells _ t frozen => .cells (Pa.typesC).toArray t frozen
      | o => o).modify 3 fun
      | .cells _ t frozen => .cells (Pa.cmpC).toArray t frozen
      | o => o) }
theorem laid_met (os : Os) : laidMet Tryd.prog Rows.parseTurnsRow.laid ((laidWorld os).forCall (fun _ _ => 0) ⟨#[], #[.int .i64 0, .int .i64 0], []⟩).memory :=
  laidMet_of_run' 8 (by kernel_rfl) (by kernel_rfl)
theorem reads (os : Os) {H : Type} (enc : TypeId × Value → H) : ∃ places, DataW.whole enc Tryd.prog ((laidWorld os).forCall (fun _ _ => 0) ⟨#[], #[.int .i64 0, .int .i64 0], []⟩).memory Tryd.f3.params.toList Rows.parseTurnsSpec.vars false (#[.int .i64 0, .int .i64 0] : Array Value).toList 8 = some ([.lit (.int .i64 0), .lit (.int .i64 0)], [], places) :=
  ⟨[], by kernel_rfl⟩

set_option maxRecDepth 100000 in
theorem lifted (os : Os) (started : os.Started) (H : Type) (enc : TypeId × Value → H) (F : Stop.Interp) :
    ReturnsInHanded {} Tryd.checked os 3 .any ((OpenSpec.ofChange Rows.parseTurnsSpec).preRow enc Tryd.prog Tryd.f3 Rows.parseTurnsRow.domain false Rows.parseTurnsRow.laid) (((OpenSpec.ofChange Rows.parseTurnsSpec).at F).post enc Tryd.prog Tryd.f3 false true false false) := by
  obtain ⟨places, hx⟩ := reads os enc
  refine returnsInHanded_of_row (C := Tryd.checked) (s := OpenSpec.ofChange Rows.parseTurnsSpec) own started (by kernel_rfl) Tryd.func3
    (witness_row_at (enc := enc) (C := Tryd.checked) false (laidWorld os) #[.int .i64 0, .int .i64 0] rfl (by kernel_rfl) (by kernel_rfl) (by kernel_rfl)
      (OpenSpec.preRow_of_cond 8 hx (by kernel_rfl) (fun k hk => by cases hk) (by kernel_rfl) (laid_met os))) ?_
  intro W base args ds gs before hval hW _ _ hz hL hS _
  exact contract H enc W base args ds gs before hval hW hL hz hS

theorem over : Rows.parseTurnsRow.holds Tryd.pinned (OpenSpec.ofChange Rows.parseTurnsSpec) :=
  OpenClaim.holds_of_cond 3 Tryd.f3 rfl rfl rfl rfl rfl rfl rfl ⟨rfl, rfl, rfl, rfl, rfl⟩ rfl rfl rfl rfl rfl (by kernel_rfl) Tryd.func3 (by kernel_rfl)
    (of_decide_eq_true (by kernel_rfl)) (by unfold Func.isWrapper; first | (rw [if_pos (by decide +kernel)]; kernel_rfl) | (rw [if_neg (by decide +kernel)]; exact ⟨rfl, rfl⟩))
    (fun os started H enc _ F => by rw [OpenClaim.pre_eq_preRow]; exact lifted os started H enc F)

theorem plainly (f : FuncId) (fn : Func) (hf : Tryd.pinned.checked.prog.funcNamed Rows.parseTurnsRow.func = some f) (hfn : Tryd.pinned.checked.prog.funcs[f]? = some fn) :
    true = Tryd.pinned.checked.prog.looks [] ∧ ∀ (j : Nat) t, fn.params[j]? = some t → Tryd.pinned.checked.prog.wantsStandIn t = false := by
  obtain rfl : f = 3 := Option.some.inj (hf.symm.trans (by kernel_rfl))
  obtain rfl : fn = Tryd.f3 := (Option.some.inj (Tryd.func3.symm.trans hfn)).symm
  refine ⟨by kernel_rfl, fun j t ht => ?_⟩
  rw [Tryd.params3] at ht
  have hm := Array.mem_of_getElem? ht
  simp at hm
  obtain rfl := hm; exact (show _ = false by kernel_rfl)

/-- The tied card. -/
theorem proved : Rows.ParseTurnsCardSaid :=
  Claim7.holds_tied_plain_at .later [] _ _ _ _ over (fun _ h => by cases h) (by kernel_rfl) (fun _ h => by cases h) parseTurns_row_tie rfl ⟨rfl, rfl⟩ (by kernel_rfl) rfl plainly (by kernel_rfl)
#print axioms proved
end Go.Proofs.YtmapbfkhggjgeaaDoor.lawParseTurns
