/-
  The tied card of ParseLists: the walk answers true whatever it is called with, where the listed variables hold what the program lays; here it is laid into its row and its card.
-/
import Derived.Test.YtjgekbmahhhokaaDoorCards
import Derived.Test.YtjgekbmahhhokaaDoorTie
import Derived.Test.YtjgekbmahhhokaaDoorPParseLists4
import Derived.WalkKit
import Derived.ProofKit
import Derived.OpenShut
import Derived.ShutString
import Derived.ChangeOld
import Derived.Below
import Derived.Lib.SmallJoins
import Derived.Deep.DeepHandedRow
import Derived.Lib.LaidTab
namespace Go.Proofs.YtjgekbmahhhokaaDoor.lawParseLists
open Go.ChangeShapes Go.WideShapes Go.ChangeAt Go.RowKit Go.Joins
open Go.ChangeMaps (open_string shut_string)
set_option linter.unusedVariables false

theorem own : ownKnob Tryd.prog.godebug = none := by kernel_rfl
theorem laidOut : laidOutB Tryd.prog = true := by kernel_rfl
set_option maxRecDepth 100000 in
theorem tables {W : World} (h : laidMetH Tryd.prog Rows.parseListsRow.laid W) : Nm.MarksTab W ∧ Nm.WordsTab W ∧ Pa.TypesTab W ∧ Pa.CmpTab W := by
  have h1 : laidMet Tryd.prog Rows.parseListsRow.laid W := h
  obtain ⟨ps, ⟨g0, t0, cs0, f0, pp0, qq0, hg0, ht0, hv0, hd0, ⟨g1, t1, cs1, f1, pp1, qq1, hg1, ht1, hv1, hd1, ⟨g2, t2, cs2, f2, pp2, qq2, hg2, ht2, hv2, hd2, ⟨g3, t3, cs3, f3, pp3, qq3, hg3, ht3, hv3, hd3, ⟨g4, t4, cs4, f4, pp4, qq4, hg4, ht4, hv4, hd4, ⟨g5, t5, cs5, f5, pp5, qq5, hg5, ht5, hv5, hd5, ⟨g6, t6, cs6, f6, pp6, qq6, hg6, ht6, hv6, hd6, ⟨g7, t7, cs7, f7, pp7, qq7, hg7, ht7, hv7, hd7, ⟨g8, t8, cs8, f8, pp8, qq8, hg8, ht8, hv8, hd8, _, _⟩, _⟩, _⟩, _⟩, _⟩, _⟩, _⟩, _⟩, _⟩, _⟩ := h1
  obtain rfl : g0 = 7 := Option.some.inj (hg0.symm.trans (by kernel_rfl))
  obtain rfl : t0 = 167 := Option.some.inj (ht0.symm.trans (by kernel_rfl))
  obtain rfl : g1 = 8 := Option.some.inj (hg1.symm.trans (by kernel_rfl))
  obtain rfl : t1 = 168 := Option.some.inj (ht1.symm.trans (by kernel_rfl))
  obtain rfl : g2 = 6 := Option.some.inj (hg2.symm.trans (by kernel_rfl))
  obtain rfl : t2 = 162 := Option.some.inj (ht2.symm.trans (by kernel_rfl))
  obtain rfl : g3 = 4 := Option.some.inj (hg3.symm.trans (by kernel_rfl))
  obtain rfl : t3 = 109 := Option.some.inj (ht3.symm.trans (by kernel_rfl))
  obtain rfl : g4 = 3 := Option.some.inj (hg4.symm.trans (by kernel_rfl))
  obtain rfl : t4 = 109 := Option.some.inj (ht4.symm.trans (by kernel_rfl))
  obtain rfl : g5 = 0 := Option.some.inj (hg5.symm.trans (by kernel_rfl))
  obtain rfl : t5 = 85 := Option.some.inj (ht5.symm.trans (by kernel_rfl))
  obtain rfl : g6 = 2 := Option.some.inj (hg6.symm.trans (by kernel_rfl))
  obtain rfl : t6 = 122 := Option.some.inj (ht6.symm.trans (by kernel_rfl))
  obtain rfl : g7 = 1 := Option.some.inj (hg7.symm.trans (by kernel_rfl))
  obtain rfl : t7 = 99 := Option.some.inj (ht7.symm.trans (by kernel_rfl))
  obtain rfl : g8 = 5 := Option.some.inj (hg8.symm.trans (by kernel_rfl))
  obtain rfl : t8 = 150 := Option.some.inj (ht8.symm.trans (by kernel_rfl))
  exact ⟨fun i v hi => Tab.var_cells (r := Nm.marksB) hg5 hv5 hd5 (Tab.reads_arr Tryd.underlying85 (by kernel_rfl) (Tab.reads_string Tryd.underlying9)) i v hi, fun i v hi => Tab.var_cells (r := Nm.wordsB) hg6 hv6 hd6 (Tab.reads_arr Tryd.underlying122 (by kernel_rfl) (Tab.reads_string Tryd.underlying9)) i v hi, fun i v hi => Tab.var_cells (r := Pa.typesB) hg7 hv7 hd7 (Tab.reads_arr Tryd.underlying99 (by kernel_rfl) (Tab.reads_string Tryd.underlying9)) i v hi, fun i v hi => Tab.var_cells (r := Pa.cmpB) hg8 hv8 hd8 (Tab.reads_arr Tryd.underlying150 (by kernel_rfl) (Tab.reads_four Tryd.underlying149 (by kernel_rfl) rfl rfl rfl rfl (by kernel_rfl) (by kernel_rfl) (by kernel_rfl) (by kernel_rfl) (Tab.reads_string Tryd.underlying9) (Tab.reads_int Tryd.underlying3) (Tab.reads_bool Tryd.underlying4) (Tab.reads_bool Tryd.underlying4))) i v hi⟩

set_option maxRecDepth 100000 in
theorem contract (H : Type) (enc : TypeId × Value → H) (W : World) (base : Nat) (args : Array Value) (ds gs : List (DataW H)) (before : List MemPlace)
    (hval0 : ∀ (j : Nat) t v, Tryd.f10.params[j]? = some t → args[j]? = some v → Value.okWide Tryd.prog W .any base t v)
    (hW : DataW.Whole enc Tryd.prog Tryd.f10.params.toList Rows.parseListsSpec.vars false W args.toList ds gs before) (hL : laidMetH Tryd.prog Rows.parseListsRow.laid W)
    (hz : (DataW.weightsEach Tryd.prog (Tryd.f10.params.toList ++ (OpenSpec.ofChange Rows.parseListsSpec).bare.plain.varTypes Tryd.prog) (ds ++ gs)).all (· ≤ reachBytes) = true) (hS : W.ShapedOpen Tryd.prog) :
    Calls Tryd.prog 10 args W fun e W' => ∃ v, e = .returned v ∧ Rows.parseListsSpec.post enc Tryd.prog Tryd.f10 false true false false W args v W' := by
  have hval : ∀ (j : Nat) t v, Tryd.f10.params[j]? = some t → args[j]? = some v → Value.okWide Tryd.prog W .any base t v := hval0
  have hW' := hW
  obtain ⟨p, q, hA0, hV, rfl, hfz, hnd⟩ := hW
  have hA : DataW.TrodAll enc Tryd.prog W 0 (fun _ => true) true Tryd.f10.params.toList args.toList ds p := hA0
  rw [Tryd.params10] at hA hval
  obtain ⟨v0, vs0, d0, ds0, p0, q0, hargs, rfl, rfl, h0, r0⟩ := trodAll_cons hA
  obtain ⟨v1, vs1, d1, ds1, p1, q1, rfl, rfl, rfl, h1, r1⟩ := trodAll_cons r0
  obtain ⟨rfl, rfl, rfl⟩ := trodAll_nil r1
  obtain rfl : args = #[v0, v1] := by cases args; simp_all
  obtain ⟨rfl, rfl⟩ := trodVars_none hV
  have k0 := h0
  have lt0 : ∀ x ∈ p0, x.block < W.heap.size := by obtain ⟨m, hm⟩ := k0; exact DataW.trod_lt m _ _ _ hm
  have k1 := h1
  have lt1 : ∀ x ∈ p1, x.block < W.heap.size := by obtain ⟨m, hm⟩ := k1; exact DataW.trod_lt m _ _ _ hm
  obtain ⟨a0, rfl, _, _, w0⟩ := open_int Tryd.underlying3 (hval 0 3 v0 rfl rfl) h0
  obtain ⟨a1, rfl, _, _, w1⟩ := open_int Tryd.underlying3 (hval 1 3 v1 rfl rfl) h1
  clear hA0 hval0
  refine (Pa.walkParseLists a0 w0 a1 w1 W (tables hL).1 (tables hL).2.1 (tables hL).2.2.1 (tables hL).2.2.2).mono fun e W' ⟨he, bel⟩ => ?_
  subst he
  exact ⟨_, rfl, _, _, _, [], _, [], hW', trodAll_mk1 (shut_bool Tryd.underlying4 _), (trodAll_cons_mk (Below.trod laidOut (by kernel_rfl) (of_decide_eq_true (by kernel_rfl)) k0 bel lt0) (trodAll_cons_mk (Below.trod laidOut (by kernel_rfl) (of_decide_eq_true (by kernel_rfl)) k1 bel lt1) trodAll_mk0)), rfl, bel.frame _, fun h => by cases h⟩

noncomputable def low : Nat := (World.holding Tryd.prog default ⟨#[], #[], []⟩).heap.size
/-- A world for the witness: the tables hold what their initialisers lay. -/
noncomputable def laidWorld (os : Os) : World :=
  { World.holding Tryd.prog os ⟨#[.cells #[.string ⟨#[118, 97, 108, 117, 101, 32, 111, 117, 116, 32, 111, 102, 32, 114, 97, 110, 103, 101]⟩] 148, .cells #[.string ⟨#[105, 110, 118, 97, 108, 105, 100, 32, 115, 121, 110, 116, 97, 120]⟩] 148], #[], []⟩ with heap := ((((((((((World.holding Tryd.prog os ⟨#[.cells #[.string ⟨#[118, 97, 108, 117, 101, 32, 111, 117, 116, 32, 111, 102, 32, 114, 97, 110, 103, 101]⟩] 148, .cells #[.string ⟨#[105, 110, 118, 97, 108, 105, 100, 32, 115, 121, 110, 116, 97, 120]⟩] 148], #[], []⟩).heap.modify 7 fun
      | .cells _ t frozen => .cells ([.int .u8 0, .int .u8 1, .int .u8 28, .int .u8 2, .int .u8 29, .int .u8 14, .int .u8 24, .int .u8 3, .int .u8 30, .int .u8 22, .int .u8 20, .int .u8 15, .int .u8 25, .int .u8 17, .int .u8 4, .int .u8 8, .int .u8 31, .int .u8 27, .int .u8 13, .int .u8 23, .int .u8 21, .int .u8 19, .int .u8 16, .int .u8 7, .int .u8 26, .int .u8 12, .int .u8 18, .int .u8 6, .int .u8 11, .int .u8 5, .int .u8 10, .int .u8 9]).toArray t frozen
      | o => o).modify 8 fun
      | .cells _ t frozen => .cells ([.int .u8 0, .int .u8 1, .int .u8 56, .int .u8 2, .int .u8 57, .int .u8 49, .int .u8 28, .int .u8 3, .int .u8 61, .int .u8 58, .int .u8 42, .int .u8 50, .int .u8 38, .int .u8 29, .int .u8 17, .int .u8 4, .int .u8 62, .int .u8 47, .int .u8 59, .int .u8 36, .int .u8 45, .int .u8 43, .int .u8 51, .int .u8 22, .int .u8 53, .int .u8 39, .int .u8 33, .int .u8 30, .int .u8 24, .int .u8 18, .int .u8 12, .int .u8 5, .int .u8 63, .int .u8 55, .int .u8 48, .int .u8 27, .int .u8 60, .int .u8 41, .int .u8 37, .int .u8 16, .int .u8 46, .int .u8 35, .int .u8 44, .int .u8 21, .int .u8 52, .int .u8 32, .int .u8 23, .int .u8 11, .int .u8 54, .int .u8 26, .int .u8 40, .int .u8 15, .int .u8 34, .int .u8 20, .int .u8 31, .int .u8 10, .int .u8 25, .int .u8 14, .int .u8 19, .int .u8 9, .int .u8 13, .int .u8 8, .int .u8 7, .int .u8 6]).toArray t frozen
      | o => o).modify 6 fun
      | .cells _ t frozen => .cells ([.int .u64 1, .int .u64 10, .int .u64 100, .int .u64 1000, .int .u64 10000, .int .u64 100000, .int .u64 1000000, .int .u64 10000000, .int .u64 100000000, .int .u64 1000000000, .int .u64 10000000000, .int .u64 100000000000, .int .u64 1000000000000, .int .u64 10000000000000, .int .u64 100000000000000, .int .u64 1000000000000000, .int .u64 10000000000000000, .int .u64 100000000000000000, .int .u64 1000000000000000000, .int .u64 10000000000000000000]).toArray t frozen
      | o => o).modify 4 fun
      | .cells _ t frozen => .cells ([.iface 146 (.pointer (some ⟨low + 0, 0, none⟩))]).toArray t frozen
      | o => o).modify 3 fun
      | .cells _ t frozen => .cells ([.iface 146 (.pointer (some ⟨low + 1, 0, none⟩))]).toArray t frozen
      | o => o).modify 0 fun
      | .cells _ t frozen => .cells (Nm.marksC).toArray t frozen
      | o => o).modify 2 fun
      | .cells _ t frozen => .cells (Nm.wordsC).toArray t frozen
      | o => o).modify 1 fun
      | .cells _ t frozen => .cells (Pa.typesC).toArray t frozen
      | o => o).modify 5 fun
      | .cells _ t frozen => .cells (Pa.cmpC).toArray t frozen
      | o => o) }
theorem laid_met (os : Os) : laidMet Tryd.prog Rows.parseListsRow.laid ((laidWorld os).forCall (fun _ _ => 0) ⟨#[], #[.int .i64 0, .int .i64 0], []⟩).memory :=
  laidMet_of_run' 8 (by kernel_rfl) (by kernel_rfl)
theorem reads (os : Os) {H : Type} (enc : TypeId × Value → H) : ∃ places, DataW.whole enc Tryd.prog ((laidWorld os).forCall (fun _ _ => 0) ⟨#[], #[.int .i64 0, .int .i64 0], []⟩).memory Tryd.f10.params.toList Rows.parseListsSpec.vars false (#[.int .i64 0, .int .i64 0] : Array Value).toList 8 = some ([.lit (.int .i64 0), .lit (.int .i64 0)], [], places) :=
  ⟨[], by kernel_rfl⟩

set_option maxRecDepth 100000 in
theorem lifted (os : Os) (started : os.Started) (H : Type) (enc : TypeId × Value → H) (F : Stop.Interp) :
    ReturnsInHanded {} Tryd.checked os 10 .any ((OpenSpec.ofChange Rows.parseListsSpec).preRow enc Tryd.prog Tryd.f10 Rows.parseListsRow.domain false Rows.parseListsRow.laid) (((OpenSpec.ofChange Rows.parseListsSpec).at F).post enc Tryd.prog Tryd.f10 false true false false) := by
  obtain ⟨places, hx⟩ := reads os enc
  refine returnsInHanded_of_row (C := Tryd.checked) (s := OpenSpec.ofChange Rows.parseListsSpec) own started (by kernel_rfl) Tryd.func10
    (witness_row_at (enc := enc) (C := Tryd.checked) false (laidWorld os) #[.int .i64 0, .int .i64 0] rfl (by kernel_rfl) (by kernel_rfl) (by kernel_rfl)
      (OpenSpec.preRow_of_cond 8 hx (by kernel_rfl) (fun k hk => by cases hk) (by kernel_rfl) (laid_met os))) ?_
  intro W base args ds gs before hval hW _ _ hz hL hS _
  exact contract H enc W base args ds gs before hval hW hL hz hS

theorem over : Rows.parseListsRow.holds Tryd.pinned (OpenSpec.ofChange Rows.parseListsSpec) :=
  OpenClaim.holds_of_cond 10 Tryd.f10 rfl rfl rfl rfl rfl rfl rfl ⟨rfl, rfl, rfl, rfl, rfl⟩ rfl rfl rfl rfl rfl (by kernel_rfl) Tryd.func10 (by kernel_rfl)
    (of_decide_eq_true (by kernel_rfl)) (by unfold Func.isWrapper; first | (rw [if_pos (by decide +kernel)]; kernel_rfl) | (rw [if_neg (by decide +kernel)]; exact ⟨rfl, rfl⟩))
    (fun os started H enc _ F => by rw [OpenClaim.pre_eq_preRow]; exact lifted os started H enc F)

theorem plainly (f : FuncId) (fn : Func) (hf : Tryd.pinned.checked.prog.funcNamed Rows.parseListsRow.func = some f) (hfn : Tryd.pinned.checked.prog.funcs[f]? = some fn) :
    true = Tryd.pinned.checked.prog.looks [] ∧ ∀ (j : Nat) t, fn.params[j]? = some t → Tryd.pinned.checked.prog.wantsStandIn t = false := by
  obtain rfl : f = 10 := Option.some.inj (hf.symm.trans (by kernel_rfl))
  obtain rfl : fn = Tryd.f10 := (Option.some.inj (Tryd.func10.symm.trans hfn)).symm
  refine ⟨by kernel_rfl, fun j t ht => ?_⟩
  rw [Tryd.params10] at ht
  have hm := Array.mem_of_getElem? ht
  simp at hm
  obtain rfl := hm; exact (show _ = false by kernel_rfl)

/-- The tied card. -/
theorem proved : Rows.ParseListsCardSaid :=
  Claim7.holds_tied_plain_at .later [] _ _ _ _ over (fun _ h => by cases h) (by kernel_rfl) (fun _ h => by cases h) parseLists_row_tie rfl ⟨rfl, rfl⟩ (by kernel_rfl) rfl plainly (by kernel_rfl)
#print axioms proved
end Go.Proofs.YtjgekbmahhhokaaDoor.lawParseLists
