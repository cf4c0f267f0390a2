/-
  The walk of the law TwoTypes.
-/
import Derived.Test.YtiaeeahoipakcaaVord
namespace Go.Proofs.Ytiaeeahoipakcaa.Vl
open Go.RowKit Kit
set_option linter.unusedVariables false
set_option linter.unusedSimpArgs false

/-- Do the kinds go together? -/
def okT (K a b : Int) : Prop := if K = 3 ∨ K = 4 then a ≤ 1 ∧ b ≤ 1 else if K = 6 ∨ K = 7 then a = b ∨ a = 0 ∨ b = 0 else (a = 2 ∨ a = 0) ∧ (b = 2 ∨ b = 0)

set_option maxHeartbeats 4000000 in
theorem plainTwoTypes {K : Int} (hK : K = 3 ∨ K = 4 ∨ K = 6 ∨ K = 7 ∨ K = 8 ∨ K = 9 ∨ K = 10) {kind : Int} {kx nx : Int} {tx : ByteArray} {ky ny : Int} {ty : ByteArray} {ka na kb nb kv nv kf nf : Int} {ta tb tv tf : ByteArray} {ev : Int} {ef : Int}
    (ga : valueF kx nx tx = ⟨ka, na, ta⟩)
    (gb : valueF ky ny ty = ⟨kb, nb, tb⟩)
    (gv : twoR K ⟨ka, na, ta⟩ ⟨kb, nb, tb⟩ = (⟨kv, nv, tv⟩, ev))
    (gf : twoR 5 ⟨ka, na, ta⟩ ⟨kb, nb, tb⟩ = (⟨kf, nf, tf⟩, ef))
    : ((¬ okT K ka kb ∧ (ev == 4) = true ∧ (ev == 0) = false ∧ veqB kv nv tv 0 0 ⟨#[]⟩ = true) ∨ (okT K ka kb ∧ (ev == 4) = false ∧ (ev == 0) = true) ∨ (okT K ka kb ∧ (ev == 4) = false ∧ (ev == 0) = false ∧ veqB kv nv tv 0 0 ⟨#[]⟩ = true)) ∧ (ef == 2) = true := by
  have oa := valueF_ok kx nx tx
  have ob := valueF_ok ky ny ty
  have ra := valueF_k kx nx tx
  have rb := valueF_k ky ny ty
  rw [ga] at oa ra; rw [gb] at ob rb
  simp only at oa ob ra rb
  obtain ⟨_, ra1, ra2⟩ := ra
  obtain ⟨_, rb1, rb2⟩ := rb
  clear ga gb
  have bo : ¬ bothF ka na ta kb nb tb ≠ 0 := by simp [bothF, oa, ob]
  have vnil := veq_refl 0 0 ⟨#[]⟩
  have h5 : twoR 5 ⟨ka, na, ta⟩ ⟨kb, nb, tb⟩ = (.nil, 2) := by simp [twoR, if_neg bo]
  rw [h5] at gf
  obtain ⟨_, rfl⟩ := Prod.mk.inj gf
  refine ⟨?_, rfl⟩
  clear gf h5
  have fin : ∀ r : V × Int, r = (⟨kv, nv, tv⟩, ev) → ((r.2 = 4 ∧ r.1 = .nil ∧ ¬ okT K ka kb) ∨ (r.2 = 0 ∧ okT K ka kb) ∨ (r.2 = 5 ∧ r.1 = .nil ∧ okT K ka kb)) → ((¬ okT K ka kb ∧ (ev == 4) = true ∧ (ev == 0) = false ∧ veqB kv nv tv 0 0 ⟨#[]⟩ = true) ∨ (okT K ka kb ∧ (ev == 4) = false ∧ (ev == 0) = true) ∨ (okT K ka kb ∧ (ev == 4) = false ∧ (ev == 0) = false ∧ veqB kv nv tv 0 0 ⟨#[]⟩ = true)) := by
    rintro r rfl h
    simp only at h
    rcases h with ⟨rfl, h, o⟩ | ⟨rfl, o⟩ | ⟨rfl, h, o⟩
    · obtain ⟨rfl, rfl, rfl⟩ := V.mk.inj h
      exact .inl ⟨o, rfl, rfl, vnil⟩
    · exact .inr (.inl ⟨o, rfl, rfl⟩)
    · obtain ⟨rfl, rfl, rfl⟩ := V.mk.inj h
      exact .inr (.inr ⟨o, rfl, rfl, vnil⟩)
  refine fin _ gv ?_
  clear gv fin
  rw [twoR, if_neg bo]
  have lg : ∀ d, ((logicR ⟨ka, na, ta⟩ ⟨kb, nb, tb⟩ d).2 = 4 ∧ (logicR ⟨ka, na, ta⟩ ⟨kb, nb, tb⟩ d).1 = .nil ∧ ¬ (ka ≤ 1 ∧ kb ≤ 1)) ∨ ((logicR ⟨ka, na, ta⟩ ⟨kb, nb, tb⟩ d).2 = 0 ∧ (ka ≤ 1 ∧ kb ≤ 1)) := by
    intro d
    unfold logicR
    by_cases p : ka = 1 ∨ ka = 0
    · by_cases q : kb = 1 ∨ kb = 0
      · right
        rw [if_neg (fun h => h p), if_neg (fun h => h q)]
        refine ⟨?_, by omega⟩
        repeat' split
        all_goals rfl
      · left
        rw [if_neg (fun h => h p), if_pos q]
        exact ⟨rfl, rfl, by omega⟩
    · left
      rw [if_pos p]
      exact ⟨rfl, rfl, by omega⟩
  by_cases k3 : K = 3
  · rw [if_pos k3]; unfold okT; rw [if_pos (.inl k3)]
    rcases lg 0 with h | h
    · exact .inl h
    · exact .inr (.inl h)
  rw [if_neg k3]
  by_cases k4 : K = 4
  · rw [if_pos k4]; unfold okT; rw [if_pos (.inr k4)]
    rcases lg 1 with h | h
    · exact .inl h
    · exact .inr (.inl h)
  rw [if_neg k4]
  by_cases k6 : K = 6 ∨ K = 7
  · have e1 : okT K ka kb = (ka = kb ∨ ka = 0 ∨ kb = 0) := by unfold okT; rw [if_neg (by omega), if_pos k6]
    rw [if_pos k6, cmpR, e1]
    by_cases z : ka = 0 ∨ kb = 0
    · rw [if_pos z]; exact .inr (.inl ⟨rfl, .inr z⟩)
    · rw [if_neg z]
      by_cases e : ka = kb
      · rw [if_neg (fun h => h e)]; exact .inr (.inl ⟨rfl, .inl e⟩)
      · rw [if_pos e]; exact .inl ⟨rfl, rfl, by omega⟩
  · have e1 : okT K ka kb = ((ka = 2 ∨ ka = 0) ∧ (kb = 2 ∨ kb = 0)) := by unfold okT; rw [if_neg (by omega), if_neg k6]
    rw [if_neg k6, if_pos (by omega), arithR, e1]
    by_cases z : (ka = 2 ∨ ka = 0) ∧ (kb = 2 ∨ kb = 0)
    · rw [if_neg (by unfold okKind; rintro (h | h); exact h z.1; exact h z.2)]
      split
      · exact .inr (.inl ⟨rfl, z⟩)
      · split
        · exact .inr (.inl ⟨rfl, z⟩)
        · exact .inr (.inr ⟨rfl, rfl, z⟩)
    · rw [if_pos (by unfold okKind; simp only; omega)]
      exact .inl ⟨rfl, rfl, z⟩

theorem valueF_ok2 {kx nx : Int} {tx : ByteArray} {ka na : Int} {ta : ByteArray} (ga : valueF kx nx tx = ⟨ka, na, ta⟩) : checkF ka na ta = 0 := by
  have oa := valueF_ok kx nx tx
  rw [ga] at oa
  exact oa

theorem two5 (k n : Int) (t : ByteArray) (k' n' : Int) (t' : ByteArray) (w : World) (h : checkF k n t = 0) (h' : checkF k' n' t' = 0) :
    Calls Try.prog 15 #[.int .i64 5, vv k n t, vv k' n' t'] w fun e w' => e = .returned (.tuple #[vv 0 0 ⟨#[]⟩, .int .i64 2]) ∧ Below w.heap.size w w' := by
  refine (two_any 5 k n t k' n' t' w (.inl (by omega))).mono ?_
  rintro e w' ⟨a, b, c, d, g, rfl, hb⟩
  have bo : ¬ bothF k n t k' n' t' ≠ 0 := by simp [bothF, h, h']
  have z : twoR 5 ⟨k, n, t⟩ ⟨k', n', t'⟩ = (⟨0, 0, ⟨#[]⟩⟩, 2) := by simp [twoR, if_neg bo, V.nil]
  rw [z] at g
  obtain ⟨h, rfl⟩ := Prod.mk.inj g
  obtain ⟨rfl, rfl, rfl⟩ := V.mk.inj h
  exact ⟨rfl, hb⟩

theorem two_none5 {kx nx : Int} {tx : ByteArray} {ky ny : Int} {ty : ByteArray} {ka na kb nb : Int} {ta tb : ByteArray} (ga : valueF kx nx tx = ⟨ka, na, ta⟩) (gb : valueF ky ny ty = ⟨kb, nb, tb⟩) :
    twoR 5 ⟨ka, na, ta⟩ ⟨kb, nb, tb⟩ = (⟨0, 0, ⟨#[]⟩⟩, 2) := by
  have oa := valueF_ok kx nx tx
  have ob := valueF_ok ky ny ty
  rw [ga] at oa; rw [gb] at ob
  simp only at oa ob
  have bo : ¬ bothF ka na ta kb nb tb ≠ 0 := by simp [bothF, oa, ob]
  simp [twoR, if_neg bo, V.nil]

set_option maxHeartbeats 1000000 in
theorem walkTwoTypes_0 (kind : Int) (wkind : (Lit.int .i64 kind).wf = true) (kx : Int) (wkx : (Lit.int .i64 kx).wf = true) (nx : Int) (wnx : (Lit.int .i64 nx).wf = true) (tx : ByteArray) (wtx : tx.size ≤ maxLen) (ky : Int) (wky : (Lit.int .i64 ky).wf = true) (ny : Int) (wny : (Lit.int .i64 ny).wf = true) (ty : ByteArray) (wty : ty.size ≤ maxLen) (hK : picked kind 7 = 0) (w : World) :
    Calls Try.prog 6 #[.int .i64 kind, .agg #[.int .i64 kx, .int .i64 nx, .string tx], .agg #[.int .i64 ky, .int .i64 ny, .string ty]] w fun e w' => e = .returned (.bool true) ∧ Below w.heap.size w w' := by
  obtain ⟨kind0, kind1⟩ := wf_bd wkind
  clear wkind
  obtain ⟨bkx0, bkx1⟩ := wf_bd wkx
  obtain ⟨bnx0, bnx1⟩ := wf_bd wnx
  clear wkx wnx
  obtain ⟨bky0, bky1⟩ := wf_bd wky
  obtain ⟨bny0, bny1⟩ := wf_bd wny
  clear wky wny
  go_enter Try.func6, Try.ntmps6
  go_wp2_with fail
  refine (value_any kx nx tx _ (by omega) (by omega) (by omega) (by omega) wtx).mono ?_
  rintro e w1 ⟨ka, na, ta, ga, rfl, hb1⟩
  have Ga := Lib.hid ga; clear ga
  have vx_1 : VAt w1 (w.heap.size) kx nx tx := VAt.on (by first | exact VAt.newAt _ _ _ _ _ (by simp) | exact (VAt.newAt _ _ _ _ _ (by simp)).up _ | exact ((VAt.newAt _ _ _ _ _ (by simp)).up _).up _ | exact VAt.mk (by first | assumption | (simp <;> omega)) (by go_simp) (by go_simp) (by go_simp)) hb1
  have vy_1 : VAt w1 (w.heap.size + 1) ky ny ty := VAt.on (by first | exact VAt.newAt _ _ _ _ _ (by simp) | exact (VAt.newAt _ _ _ _ _ (by simp)).up _ | exact ((VAt.newAt _ _ _ _ _ (by simp)).up _).up _ | exact VAt.mk (by first | assumption | (simp <;> omega)) (by go_simp) (by go_simp) (by go_simp)) hb1
  obtain ⟨zlx, zxx, zyx, zzx⟩ := id vx_1
  obtain ⟨zly, zxy, zyy, zzy⟩ := id vy_1
  obtain ⟨ba0, ba1⟩ := valueF_bd2 Ga.out (by omega) (by omega)
  go_wp2_with fail
  refine (value_any ky ny ty _ (by omega) (by omega) (by omega) (by omega) wty).mono ?_
  rintro e w2 ⟨kb, nb, tb, gb, rfl, hb2⟩
  have Gb := Lib.hid gb; clear gb
  have vx_2 : VAt w2 (w.heap.size) kx nx tx := VAt.on (by first | exact vx_1 | exact vx_1.up _ | exact (vx_1.up _).up _ | exact ((vx_1.up _).up _).up _ | exact VAt.mk (by first | assumption | (simp <;> omega)) (by go_simp) (by go_simp) (by go_simp)) hb2; clear vx_1
  have vy_2 : VAt w2 (w.heap.size + 1) ky ny ty := VAt.on (by first | exact vy_1 | exact vy_1.up _ | exact (vy_1.up _).up _ | exact ((vy_1.up _).up _).up _ | exact VAt.mk (by first | assumption | (simp <;> omega)) (by go_simp) (by go_simp) (by go_simp)) hb2; clear vy_1
  have va_2 : VAt w2 (w1.heap.size) ka na ta := VAt.on (by first | exact VAt.newAt _ _ _ _ _ (by simp) | exact (VAt.newAt _ _ _ _ _ (by simp)).up _ | exact ((VAt.newAt _ _ _ _ _ (by simp)).up _).up _ | exact VAt.mk (by first | assumption | (simp <;> omega)) (by go_simp) (by go_simp) (by go_simp)) hb2
  clear zlx zxx zyx zzx zly zxy zyy zzy
  obtain ⟨zlx, zxx, zyx, zzx⟩ := id vx_2
  obtain ⟨zly, zxy, zyy, zzy⟩ := id vy_2
  obtain ⟨zla, zxa, zya, zza⟩ := id va_2
  obtain ⟨bb0, bb1⟩ := valueF_bd2 Gb.out (by omega) (by omega)
  go_wp2_with fail
  refine (picked_any _ _ _ (by omega) (by omega) (by omega) (by omega)).mono ?_
  rintro e w' ⟨rfl, rfl⟩
  go_wp2_with fail
  refine (two_any 3 _ _ _ _ _ _ _ (.inr ⟨⟨by omega, by omega⟩, by omega, by omega⟩)).mono ?_
  rintro e w3 ⟨kv, nv, tv, ev, gv, rfl, hb3⟩
  have Gv := Lib.hid gv; clear gv
  have va_3 : VAt w3 (w1.heap.size) ka na ta := VAt.on (by first | exact va_2 | exact va_2.up _ | exact (va_2.up _).up _ | exact ((va_2.up _).up _).up _ | exact VAt.mk (by first | assumption | (simp <;> omega)) (by go_simp) (by go_simp) (by go_simp)) hb3; clear va_2
  have vb_3 : VAt w3 (w2.heap.size) kb nb tb := VAt.on (by first | exact VAt.newAt _ _ _ _ _ (by simp) | exact (VAt.newAt _ _ _ _ _ (by simp)).up _ | exact ((VAt.newAt _ _ _ _ _ (by simp)).up _).up _ | exact VAt.mk (by first | assumption | (simp <;> omega)) (by go_simp) (by go_simp) (by go_simp)) hb3
  clear zlx zxx zyx zzx zly zxy zyy zzy zla zxa zya zza
  obtain ⟨zla, zxa, zya, zza⟩ := id va_3
  obtain ⟨zlb, zxb, zyb, zzb⟩ := id vb_3
  obtain ⟨bv0, bv1⟩ := twoR_bd2 Gv.out (by omega) (by omega) (by omega) (by omega)
  have Oa := Lib.hid (valueF_ok2 Ga.out); have Ob := Lib.hid (valueF_ok2 Gb.out)
  have hf : twoR 5 ⟨ka, na, ta⟩ ⟨kb, nb, tb⟩ = (⟨0, 0, ⟨#[]⟩⟩, 2) := two_none5 Ga.out Gb.out
  obtain ⟨f0, _⟩ := plainTwoTypes (K := 3) (by omega) (kind := 0) Ga.out Gb.out Gv.out hf
  clear hf
  rcases f0 with ⟨o, q1, q2, q3⟩ | ⟨o, q1, q2⟩ | ⟨o, q1, q2, q3⟩
  all_goals simp [okT] at o
  all_goals
    go_wp2_with fail
  all_goals refine (two5 _ _ _ _ _ _ _ (by first | exact Oa.out | (have h1 := Oa.out; simp_all; done)) (by first | exact Ob.out | (have h1 := Ob.out; simp_all; done))).mono ?_
  all_goals rintro e w4 ⟨rfl, hb4⟩
  all_goals have vv4 : VAt w4 w3.heap.size kv nv tv := VAt.on (VAt.newAt _ _ _ _ _ (by simp)) hb4
  all_goals obtain ⟨zl, zx, zy, zz⟩ := vv4
  all_goals go_wp2_with fail
  all_goals go_ret
  all_goals refine ⟨?_, ?_⟩
  all_goals first
    | exact rfl
    | ((repeat (first | exact Below.refl _ _ | refine ext_via ?_ (by assumption) | refine ext_al ?_ _ | refine ext_dr ?_ | refine ext_drN _ ?_ | refine ext_set ?_ (by first | omega | (simp <;> omega)) _)); done)
    | (show Ending.returned (.bool _) = _; refine congrArg (fun b => Ending.returned (.bool b)) ?_; simp; omega)
    | (show Ending.returned (.bool _) = _; refine congrArg (fun b => Ending.returned (.bool b)) ?_)
    | skip

set_option maxHeartbeats 1000000 in
theorem walkTwoTypes_1 (kind : Int) (wkind : (Lit.int .i64 kind).wf = true) (kx : Int) (wkx : (Lit.int .i64 kx).wf = true) (nx : Int) (wnx : (Lit.int .i64 nx).wf = true) (tx : ByteArray) (wtx : tx.size ≤ maxLen) (ky : Int) (wky : (Lit.int .i64 ky).wf = true) (ny : Int) (wny : (Lit.int .i64 ny).wf = true) (ty : ByteArray) (wty : ty.size ≤ maxLen) (hK : picked kind 7 = 1) (w : World) :
    Calls Try.prog 6 #[.int .i64 kind, .agg #[.int .i64 kx, .int .i64 nx, .string tx], .agg #[.int .i64 ky, .int .i64 ny, .string ty]] w fun e w' => e = .returned (.bool true) ∧ Below w.heap.size w w' := by
  obtain ⟨kind0, kind1⟩ := wf_bd wkind
  clear wkind
  obtain ⟨bkx0, bkx1⟩ := wf_bd wkx
  obtain ⟨bnx0, bnx1⟩ := wf_bd wnx
  clear wkx wnx
  obtain ⟨bky0, bky1⟩ := wf_bd wky
  obtain ⟨bny0, bny1⟩ := wf_bd wny
  clear wky wny
  go_enter Try.func6, Try.ntmps6
  go_wp2_with fail
  refine (value_any kx nx tx _ (by omega) (by omega) (by omega) (by omega) wtx).mono ?_
  rintro e w1 ⟨ka, na, ta, ga, rfl, hb1⟩
  have Ga := Lib.hid ga; clear ga
  have vx_1 : VAt w1 (w.heap.size) kx nx tx := VAt.on (by first | exact VAt.newAt _ _ _ _ _ (by simp) | exact (VAt.newAt _ _ _ _ _ (by simp)).up _ | exact ((VAt.newAt _ _ _ _ _ (by simp)).up _).up _ | exact VAt.mk (by first | assumption | (simp <;> omega)) (by go_simp) (by go_simp) (by go_simp)) hb1
  have vy_1 : VAt w1 (w.heap.size + 1) ky ny ty := VAt.on (by first | exact VAt.newAt _ _ _ _ _ (by simp) | exact (VAt.newAt _ _ _ _ _ (by simp)).up _ | exact ((VAt.newAt _ _ _ _ _ (by simp)).up _).up _ | exact VAt.mk (by first | assumption | (simp <;> omega)) (by go_simp) (by go_simp) (by go_simp)) hb1
  obtain ⟨zlx, zxx, zyx, zzx⟩ := id vx_1
  obtain ⟨zly, zxy, zyy, zzy⟩ := id vy_1
  obtain ⟨ba0, ba1⟩ := valueF_bd2 Ga.out (by omega) (by omega)
  go_wp2_with fail
  refine (value_any ky ny ty _ (by omega) (by omega) (by omega) (by omega) wty).mono ?_
  rintro e w2 ⟨kb, nb, tb, gb, rfl, hb2⟩
  have Gb := Lib.hid gb; clear gb
  have vx_2 : VAt w2 (w.heap.size) kx nx tx := VAt.on (by first | exact vx_1 | exact vx_1.up _ | exact (vx_1.up _).up _ | exact ((vx_1.up _).up _).up _ | exact VAt.mk (by first | assumption | (simp <;> omega)) (by go_simp) (by go_simp) (by go_simp)) hb2; clear vx_1
  have vy_2 : VAt w2 (w.heap.size + 1) ky ny ty := VAt.on (by first | exact vy_1 | exact vy_1.up _ | exact (vy_1.up _).up _ | exact ((vy_1.up _).up _).up _ | exact VAt.mk (by first | assumption | (simp <;> omega)) (by go_simp) (by go_simp) (by go_simp)) hb2; clear vy_1
  have va_2 : VAt w2 (w1.heap.size) ka na ta := VAt.on (by first | exact VAt.newAt _ _ _ _ _ (by simp) | exact (VAt.newAt _ _ _ _ _ (by simp)).up _ | exact ((VAt.newAt _ _ _ _ _ (by simp)).up _).up _ | exact VAt.mk (by first | assumption | (simp <;> omega)) (by go_simp) (by go_simp) (by go_simp)) hb2
  clear zlx zxx zyx zzx zly zxy zyy zzy
  obtain ⟨zlx, zxx, zyx, zzx⟩ := id vx_2
  obtain ⟨zly, zxy, zyy, zzy⟩ := id vy_2
  obtain ⟨zla, zxa, zya, zza⟩ := id va_2
  obtain ⟨bb0, bb1⟩ := valueF_bd2 Gb.out (by omega) (by omega)
  go_wp2_with fail
  refine (picked_any _ _ _ (by omega) (by omega) (by omega) (by omega)).mono ?_
  rintro e w' ⟨rfl, rfl⟩
  go_wp2_with fail
  refine (two_any 4 _ _ _ _ _ _ _ (.inr ⟨⟨by omega, by omega⟩, by omega, by omega⟩)).mono ?_
  rintro e w3 ⟨kv, nv, tv, ev, gv, rfl, hb3⟩
  have Gv := Lib.hid gv; clear gv
  have va_3 : VAt w3 (w1.heap.size) ka na ta := VAt.on (by first | exact va_2 | exact va_2.up _ | exact (va_2.up _).up _ | exact ((va_2.up _).up _).up _ | exact VAt.mk (by first | assumption | (simp <;> omega)) (by go_simp) (by go_simp) (by go_simp)) hb3; clear va_2
  have vb_3 : VAt w3 (w2.heap.size) kb nb tb := VAt.on (by first | exact VAt.newAt _ _ _ _ _ (by simp) | exact (VAt.newAt _ _ _ _ _ (by simp)).up _ | exact ((VAt.newAt _ _ _ _ _ (by simp)).up _).up _ | exact VAt.mk (by first | assumption | (simp <;> omega)) (by go_simp) (by go_simp) (by go_simp)) hb3
  clear zlx zxx zyx zzx zly zxy zyy zzy zla zxa zya zza
  obtain ⟨zla, zxa, zya, zza⟩ := id va_3
  obtain ⟨zlb, zxb, zyb, zzb⟩ := id vb_3
  obtain ⟨bv0, bv1⟩ := twoR_bd2 Gv.out (by omega) (by omega) (by omega) (by omega)
  have Oa := Lib.hid (valueF_ok2 Ga.out); have Ob := Lib.hid (valueF_ok2 Gb.out)
  have hf : twoR 5 ⟨ka, na, ta⟩ ⟨kb, nb, tb⟩ = (⟨0, 0, ⟨#[]⟩⟩, 2) := two_none5 Ga.out Gb.out
  obtain ⟨f0, _⟩ := plainTwoTypes (K := 4) (by omega) (kind := 0) Ga.out Gb.out Gv.out hf
  clear hf
  rcases f0 with ⟨o, q1, q2, q3⟩ | ⟨o, q1, q2⟩ | ⟨o, q1, q2, q3⟩
  all_goals simp [okT] at o
  all_goals
    go_wp2_with fail
  all_goals refine (two5 _ _ _ _ _ _ _ (by first | exact Oa.out | (have h1 := Oa.out; simp_all; done)) (by first | exact Ob.out | (have h1 := Ob.out; simp_all; done))).mono ?_
  all_goals rintro e w4 ⟨rfl, hb4⟩
  all_goals have vv4 : VAt w4 w3.heap.size kv nv tv := VAt.on (VAt.newAt _ _ _ _ _ (by simp)) hb4
  all_goals obtain ⟨zl, zx, zy, zz⟩ := vv4
  all_goals go_wp2_with fail
  all_goals go_ret
  all_goals refine ⟨?_, ?_⟩
  all_goals first
    | exact rfl
    | ((repeat (first | exact Below.refl _ _ | refine ext_via ?_ (by assumption) | refine ext_al ?_ _ | refine ext_dr ?_ | refine ext_drN _ ?_ | refine ext_set ?_ (by first | omega | (simp <;> omega)) _)); done)
    | (show Ending.returned (.bool _) = _; refine congrArg (fun b => Ending.returned (.bool b)) ?_; simp; omega)
    | (show Ending.returned (.bool _) = _; refine congrArg (fun b => Ending.returned (.bool b)) ?_)
    | skip

set_option maxHeartbeats 1000000 in
theorem walkTwoTypes_2 (kind : Int) (wkind : (Lit.int .i64 kind).wf = true) (kx : Int) (wkx : (Lit.int .i64 kx).wf = true) (nx : Int) (wnx : (Lit.int .i64 nx).wf = true) (tx : ByteArray) (wtx : tx.size ≤ maxLen) (ky : Int) (wky : (Lit.int .i64 ky).wf = true) (ny : Int) (wny : (Lit.int .i64 ny).wf = true) (ty : ByteArray) (wty : ty.size ≤ maxLen) (hK : picked kind 7 = 2) (w : World) :
    Calls Try.prog 6 #[.int .i64 kind, .agg #[.int .i64 kx, .int .i64 nx, .string tx], .agg #[.int .i64 ky, .int .i64 ny, .string ty]] w fun e w' => e = .returned (.bool true) ∧ Below w.heap.size w w' := by
  obtain ⟨kind0, kind1⟩ := wf_bd wkind
  clear wkind
  obtain ⟨bkx0, bkx1⟩ := wf_bd wkx
  obtain ⟨bnx0, bnx1⟩ := wf_bd wnx
  clear wkx wnx
  obtain ⟨bky0, bky1⟩ := wf_bd wky
  obtain ⟨bny0, bny1⟩ := wf_bd wny
  clear wky wny
  go_enter Try.func6, Try.ntmps6
  go_wp2_with fail
  refine (value_any kx nx tx _ (by omega) (by omega) (by omega) (by omega) wtx).mono ?_
  rintro e w1 ⟨ka, na, ta, ga, rfl, hb1⟩
  have Ga := Lib.hid ga; clear ga
  have vx_1 : VAt w1 (w.heap.size) kx nx tx := VAt.on (by first | exact VAt.newAt _ _ _ _ _ (by simp) | exact (VAt.newAt _ _ _ _ _ (by simp)).up _ | exact ((VAt.newAt _ _ _ _ _ (by simp)).up _).up _ | exact VAt.mk (by first | assumption | (simp <;> omega)) (by go_simp) (by go_simp) (by go_simp)) hb1
  have vy_1 : VAt w1 (w.heap.size + 1) ky ny ty := VAt.on (by first | exact VAt.newAt _ _ _ _ _ (by simp) | exact (VAt.newAt _ _ _ _ _ (by simp)).up _ | exact ((VAt.newAt _ _ _ _ _ (by simp)).up _).up _ | exact VAt.mk (by first | assumption | (simp <;> omega)) (by go_simp) (by go_simp) (by go_simp)) hb1
  obtain ⟨zlx, zxx, zyx, zzx⟩ := id vx_1
  obtain ⟨zly, zxy, zyy, zzy⟩ := id vy_1
  obtain ⟨ba0, ba1⟩ := valueF_bd2 Ga.out (by omega) (by omega)
  go_wp2_with fail
  refine (value_any ky ny ty _ (by omega) (by omega) (by omega) (by omega) wty).mono ?_
  rintro e w2 ⟨kb, nb, tb, gb, rfl, hb2⟩
  have Gb := Lib.hid gb; clear gb
  have vx_2 : VAt w2 (w.heap.size) kx nx tx := VAt.on (by first | exact vx_1 | exact vx_1.up _ | exact (vx_1.up _).up _ | exact ((vx_1.up _).up _).up _ | exact VAt.mk (by first | assumption | (simp <;> omega)) (by go_simp) (by go_simp) (by go_simp)) hb2; clear vx_1
  have vy_2 : VAt w2 (w.heap.size + 1) ky ny ty := VAt.on (by first | exact vy_1 | exact vy_1.up _ | exact (vy_1.up _).up _ | exact ((vy_1.up _).up _).up _ | exact VAt.mk (by first | assumption | (simp <;> omega)) (by go_simp) (by go_simp) (by go_simp)) hb2; clear vy_1
  have va_2 : VAt w2 (w1.heap.size) ka na ta := VAt.on (by first | exact VAt.newAt _ _ _ _ _ (by simp) | exact (VAt.newAt _ _ _ _ _ (by simp)).up _ | exact ((VAt.newAt _ _ _ _ _ (by simp)).up _).up _ | exact VAt.mk (by first | assumption | (simp <;> omega)) (by go_simp) (by go_simp) (by go_simp)) hb2
  clear zlx zxx zyx zzx zly zxy zyy zzy
  obtain ⟨zlx, zxx, zyx, zzx⟩ := id vx_2
  obtain ⟨zly, zxy, zyy, zzy⟩ := id vy_2
  obtain ⟨zla, zxa, zya, zza⟩ := id va_2
  obtain ⟨bb0, bb1⟩ := valueF_bd2 Gb.out (by omega) (by omega)
  go_wp2_with fail
  refine (picked_any _ _ _ (by omega) (by omega) (by omega) (by omega)).mono ?_
  rintro e w' ⟨rfl, rfl⟩
  go_wp2_with fail
  refine (two_any 6 _ _ _ _ _ _ _ (.inr ⟨⟨by omega, by omega⟩, by omega, by omega⟩)).mono ?_
  rintro e w3 ⟨kv, nv, tv, ev, gv, rfl, hb3⟩
  have Gv := Lib.hid gv; clear gv
  have va_3 : VAt w3 (w1.heap.size) ka na ta := VAt.on (by first | exact va_2 | exact va_2.up _ | exact (va_2.up _).up _ | exact ((va_2.up _).up _).up _ | exact VAt.mk (by first | assumption | (simp <;> omega)) (by go_simp) (by go_simp) (by go_simp)) hb3; clear va_2
  have vb_3 : VAt w3 (w2.heap.size) kb nb tb := VAt.on (by first | exact VAt.newAt _ _ _ _ _ (by simp) | exact (VAt.newAt _ _ _ _ _ (by simp)).up _ | exact ((VAt.newAt _ _ _ _ _ (by simp)).up _).up _ | exact VAt.mk (by first | assumption | (simp <;> omega)) (by go_simp) (by go_simp) (by go_simp)) hb3
  clear zlx zxx zyx zzx zly zxy zyy zzy zla zxa zya zza
  obtain ⟨zla, zxa, zya, zza⟩ := id va_3
  obtain ⟨zlb, zxb, zyb, zzb⟩ := id vb_3
  obtain ⟨bv0, bv1⟩ := twoR_bd2 Gv.out (by omega) (by omega) (by omega) (by omega)
  have Oa := Lib.hid (valueF_ok2 Ga.out); have Ob := Lib.hid (valueF_ok2 Gb.out)
  have hf : twoR 5 ⟨ka, na, ta⟩ ⟨kb, nb, tb⟩ = (⟨0, 0, ⟨#[]⟩⟩, 2) := two_none5 Ga.out Gb.out
  obtain ⟨f0, _⟩ := plainTwoTypes (K := 6) (by omega) (kind := 0) Ga.out Gb.out Gv.out hf
  clear hf
  rcases f0 with ⟨o, q1, q2, q3⟩ | ⟨o, q1, q2⟩ | ⟨o, q1, q2, q3⟩
  all_goals simp [okT] at o
  all_goals
    go_wp2_with fail
  all_goals refine (two5 _ _ _ _ _ _ _ (by first | exact Oa.out | (have h1 := Oa.out; simp_all; done)) (by first | exact Ob.out | (have h1 := Ob.out; simp_all; done))).mono ?_
  all_goals rintro e w4 ⟨rfl, hb4⟩
  all_goals have vv4 : VAt w4 w3.heap.size kv nv tv := VAt.on (VAt.newAt _ _ _ _ _ (by simp)) hb4
  all_goals obtain ⟨zl, zx, zy, zz⟩ := vv4
  all_goals go_wp2_with fail
  all_goals go_ret
  all_goals refine ⟨?_, ?_⟩
  all_goals first
    | exact rfl
    | ((repeat (first | exact Below.refl _ _ | refine ext_via ?_ (by assumption) | refine ext_al ?_ _ | refine ext_dr ?_ | refine ext_drN _ ?_ | refine ext_set ?_ (by first | omega | (simp <;> omega)) _)); done)
    | (show Ending.returned (.bool _) = _; refine congrArg (fun b => Ending.returned (.bool b)) ?_; simp; omega)
    | (show Ending.returned (.bool _) = _; refine congrArg (fun b => Ending.returned (.bool b)) ?_)
    | skip

set_option maxHeartbeats 1000000 in
theorem walkTwoTypes_3 (kind : Int) (wkind : (Lit.int .i64 kind).wf = true) (kx : Int) (wkx : (Lit.int .i64 kx).wf = true) (nx : Int) (wnx : (Lit.int .i64 nx).wf = true) (tx : ByteArray) (wtx : tx.size ≤ maxLen) (ky : Int) (wky : (Lit.int .i64 ky).wf = true) (ny : Int) (wny : (Lit.int .i64 ny).wf = true) (ty : ByteArray) (wty : ty.size ≤ maxLen) (hK : picked kind 7 = 3) (w : World) :
    Calls Try.prog 6 #[.int .i64 kind, .agg #[.int .i64 kx, .int .i64 nx, .string tx], .agg #[.int .i64 ky, .int .i64 ny, .string ty]] w fun e w' => e = .returned (.bool true) ∧ Below w.heap.size w w' := by
  obtain ⟨kind0, kind1⟩ := wf_bd wkind
  clear wkind
  obtain ⟨bkx0, bkx1⟩ := wf_bd wkx
  obtain ⟨bnx0, bnx1⟩ := wf_bd wnx
  clear wkx wnx
  obtain ⟨bky0, bky1⟩ := wf_bd wky
  obtain ⟨bny0, bny1⟩ := wf_bd wny
  clear wky wny
  go_enter Try.func6, Try.ntmps6
  go_wp2_with fail
  refine (value_any kx nx tx _ (by omega) (by omega) (by omega) (by omega) wtx).mono ?_
  rintro e w1 ⟨ka, na, ta, ga, rfl, hb1⟩
  have Ga := Lib.hid ga; clear ga
  have vx_1 : VAt w1 (w.heap.size) kx nx tx := VAt.on (by first | exact VAt.newAt _ _ _ _ _ (by simp) | exact (VAt.newAt _ _ _ _ _ (by simp)).up _ | exact ((VAt.newAt _ _ _ _ _ (by simp)).up _).up _ | exact VAt.mk (by first | assumption | (simp <;> omega)) (by go_simp) (by go_simp) (by go_simp)) hb1
  have vy_1 : VAt w1 (w.heap.size + 1) ky ny ty := VAt.on (by first | exact VAt.newAt _ _ _ _ _ (by simp) | exact (VAt.newAt _ _ _ _ _ (by simp)).up _ | exact ((VAt.newAt _ _ _ _ _ (by simp)).up _).up _ | exact VAt.mk (by first | assumption | (simp <;> omega)) (by go_simp) (by go_simp) (by go_simp)) hb1
  obtain ⟨zlx, zxx, zyx, zzx⟩ := id vx_1
  obtain ⟨zly, zxy, zyy, zzy⟩ := id vy_1
  obtain ⟨ba0, ba1⟩ := valueF_bd2 Ga.out (by omega) (by omega)
  go_wp2_with fail
  refine (value_any ky ny ty _ (by omega) (by omega) (by omega) (by omega) wty).mono ?_
  rintro e w2 ⟨kb, nb, tb, gb, rfl, hb2⟩
  have Gb := Lib.hid gb; clear gb
  have vx_2 : VAt w2 (w.heap.size) kx nx tx := VAt.on (by first | exact vx_1 | exact vx_1.up _ | exact (vx_1.up _).up _ | exact ((vx_1.up _).up _).up _ | exact VAt.mk (by first | assumption | (simp <;> omega)) (by go_simp) (by go_simp) (by go_simp)) hb2; clear vx_1
  have vy_2 : VAt w2 (w.heap.size + 1) ky ny ty := VAt.on (by first | exact vy_1 | exact vy_1.up _ | exact (vy_1.up _).up _ | exact ((vy_1.up _).up _).up _ | exact VAt.mk (by first | assumption | (simp <;> omega)) (by go_simp) (by go_simp) (by go_simp)) hb2; clear vy_1
  have va_2 : VAt w2 (w1.heap.size) ka na ta := VAt.on (by first | exact VAt.newAt _ _ _ _ _ (by simp) | exact (VAt.newAt _ _ _ _ _ (by simp)).up _ | exact ((VAt.newAt _ _ _ _ _ (by simp)).up _).up _ | exact VAt.mk (by first | assumption | (simp <;> omega)) (by go_simp) (by go_simp) (by go_simp)) hb2
  clear zlx zxx zyx zzx zly zxy zyy zzy
  obtain ⟨zlx, zxx, zyx, zzx⟩ := id vx_2
  obtain ⟨zly, zxy, zyy, zzy⟩ := id vy_2
  obtain ⟨zla, zxa, zya, zza⟩ := id va_2
  obtain ⟨bb0, bb1⟩ := valueF_bd2 Gb.out (by omega) (by omega)
  go_wp2_with fail
  refine (picked_any _ _ _ (by omega) (by omega) (by omega) (by omega)).mono ?_
  rintro e w' ⟨rfl, rfl⟩
  go_wp2_with fail
  refine (two_any 7 _ _ _ _ _ _ _ (.inr ⟨⟨by omega, by omega⟩, by omega, by omega⟩)).mono ?_
  rintro e w3 ⟨kv, nv, tv, ev, gv, rfl, hb3⟩
  have Gv := Lib.hid gv; clear gv
  have va_3 : VAt w3 (w1.heap.size) ka na ta := VAt.on (by first | exact va_2 | exact va_2.up _ | exact (va_2.up _).up _ | exact ((va_2.up _).up _).up _ | exact VAt.mk (by first | assumption | (simp <;> omega)) (by go_simp) (by go_simp) (by go_simp)) hb3; clear va_2
  have vb_3 : VAt w3 (w2.heap.size) kb nb tb := VAt.on (by first | exact VAt.newAt _ _ _ _ _ (by simp) | exact (VAt.newAt _ _ _ _ _ (by simp)).up _ | exact ((VAt.newAt _ _ _ _ _ (by simp)).up _).up _ | exact VAt.mk (by first | assumption | (simp <;> omega)) (by go_simp) (by go_simp) (by go_simp)) hb3
  clear zlx zxx zyx zzx zly zxy zyy zzy zla zxa zya zza
  obtain ⟨zla, zxa, zya, zza⟩ := id va_3
  obtain ⟨zlb, zxb, zyb, zzb⟩ := id vb_3
  obtain ⟨bv0, bv1⟩ := twoR_bd2 Gv.out (by omega) (by omega) (by omega) (by omega)
  have Oa := Lib.hid (valueF_ok2 Ga.out); have Ob := Lib.hid (valueF_ok2 Gb.out)
  have hf : twoR 5 ⟨ka, na, ta⟩ ⟨kb, nb, tb⟩ = (⟨0, 0, ⟨#[]⟩⟩, 2) := two_none5 Ga.out Gb.out
  obtain ⟨f0, _⟩ := plainTwoTypes (K := 7) (by omega) (kind := 0) Ga.out Gb.out Gv.out hf
  clear hf
  rcases f0 with ⟨o, q1, q2, q3⟩ | ⟨o, q1, q2⟩ | ⟨o, q1, q2, q3⟩
  all_goals simp [okT] at o
  all_goals
    go_wp2_with fail
  all_goals refine (two5 _ _ _ _ _ _ _ (by first | exact Oa.out | (have h1 := Oa.out; simp_all; done)) (by first | exact Ob.out | (have h1 := Ob.out; simp_all; done))).mono ?_
  all_goals rintro e w4 ⟨rfl, hb4⟩
  all_goals have vv4 : VAt w4 w3.heap.size kv nv tv := VAt.on (VAt.newAt _ _ _ _ _ (by simp)) hb4
  all_goals obtain ⟨zl, zx, zy, zz⟩ := vv4
  all_goals go_wp2_with fail
  all_goals go_ret
  all_goals refine ⟨?_, ?_⟩
  all_goals first
    | exact rfl
    | ((repeat (first | exact Below.refl _ _ | refine ext_via ?_ (by assumption) | refine ext_al ?_ _ | refine ext_dr ?_ | refine ext_drN _ ?_ | refine ext_set ?_ (by first | omega | (simp <;> omega)) _)); done)
    | (show Ending.returned (.bool _) = _; refine congrArg (fun b => Ending.returned (.bool b)) ?_; simp; omega)
    | (show Ending.returned (.bool _) = _; refine congrArg (fun b => Ending.returned (.bool b)) ?_)
    | skip

set_option maxHeartbeats 1000000 in
theorem walkTwoTypes_4 (kind : Int) (wkind : (Lit.int .i64 kind).wf = true) (kx : Int) (wkx : (Lit.int .i64 kx).wf = true) (nx : Int) (wnx : (Lit.int .i64 nx).wf = true) (tx : ByteArray) (wtx : tx.size ≤ maxLen) (ky : Int) (wky : (Lit.int .i64 ky).wf = true) (ny : Int) (wny : (Lit.int .i64 ny).wf = true) (ty : ByteArray) (wty : ty.size ≤ maxLen) (hK : picked kind 7 = 4) (w : World) :
    Calls Try.prog 6 #[.int .i64 kind, .agg #[.int .i64 kx, .int .i64 nx, .string tx], .agg #[.int .i64 ky, .int .i64 ny, .string ty]] w fun e w' => e = .returned (.bool true) ∧ Below w.heap.size w w' := by
  obtain ⟨kind0, kind1⟩ := wf_bd wkind
  clear wkind
  obtain ⟨bkx0, bkx1⟩ := wf_bd wkx
  obtain ⟨bnx0, bnx1⟩ := wf_bd wnx
  clear wkx wnx
  obtain ⟨bky0, bky1⟩ := wf_bd wky
  obtain ⟨bny0, bny1⟩ := wf_bd wny
  clear wky wny
  go_enter Try.func6, Try.ntmps6
  go_wp2_with fail
  refine (value_any kx nx tx _ (by omega) (by omega) (by omega) (by omega) wtx).mono ?_
  rintro e w1 ⟨ka, na, ta, ga, rfl, hb1⟩
  have Ga := Lib.hid ga; clear ga
  have vx_1 : VAt w1 (w.heap.size) kx nx tx := VAt.on (by first | exact VAt.newAt _ _ _ _ _ (by simp) | exact (VAt.newAt _ _ _ _ _ (by simp)).up _ | exact ((VAt.newAt _ _ _ _ _ (by simp)).up _).up _ | exact VAt.mk (by first | assumption | (simp <;> omega)) (by go_simp) (by go_simp) (by go_simp)) hb1
  have vy_1 : VAt w1 (w.heap.size + 1) ky ny ty := VAt.on (by first | exact VAt.newAt _ _ _ _ _ (by simp) | exact (VAt.newAt _ _ _ _ _ (by simp)).up _ | exact ((VAt.newAt _ _ _ _ _ (by simp)).up _).up _ | exact VAt.mk (by first | assumption | (simp <;> omega)) (by go_simp) (by go_simp) (by go_simp)) hb1
  obtain ⟨zlx, zxx, zyx, zzx⟩ := id vx_1
  obtain ⟨zly, zxy, zyy, zzy⟩ := id vy_1
  obtain ⟨ba0, ba1⟩ := valueF_bd2 Ga.out (by omega) (by omega)
  go_wp2_with fail
  refine (value_any ky ny ty _ (by omega) (by omega) (by omega) (by omega) wty).mono ?_
  rintro e w2 ⟨kb, nb, tb, gb, rfl, hb2⟩
  have Gb := Lib.hid gb; clear gb
  have vx_2 : VAt w2 (w.heap.size) kx nx tx := VAt.on (by first | exact vx_1 | exact vx_1.up _ | exact (vx_1.up _).up _ | exact ((vx_1.up _).up _).up _ | exact VAt.mk (by first | assumption | (simp <;> omega)) (by go_simp) (by go_simp) (by go_simp)) hb2; clear vx_1
  have vy_2 : VAt w2 (w.heap.size + 1) ky ny ty := VAt.on (by first | exact vy_1 | exact vy_1.up _ | exact (vy_1.up _).up _ | exact ((vy_1.up _).up _).up _ | exact VAt.mk (by first | assumption | (simp <;> omega)) (by go_simp) (by go_simp) (by go_simp)) hb2; clear vy_1
  have va_2 : VAt w2 (w1.heap.size) ka na ta := VAt.on (by first | exact VAt.newAt _ _ _ _ _ (by simp) | exact (VAt.newAt _ _ _ _ _ (by simp)).up _ | exact ((VAt.newAt _ _ _ _ _ (by simp)).up _).up _ | exact VAt.mk (by first | assumption | (simp <;> omega)) (by go_simp) (by go_simp) (by go_simp)) hb2
  clear zlx zxx zyx zzx zly zxy zyy zzy
  obtain ⟨zlx, zxx, zyx, zzx⟩ := id vx_2
  obtain ⟨zly, zxy, zyy, zzy⟩ := id vy_2
  obtain ⟨zla, zxa, zya, zza⟩ := id va_2
  obtain ⟨bb0, bb1⟩ := valueF_bd2 Gb.out (by omega) (by omega)
  go_wp2_with fail
  refine (picked_any _ _ _ (by omega) (by omega) (by omega) (by omega)).mono ?_
  rintro e w' ⟨rfl, rfl⟩
  go_wp2_with fail
  refine (two_any 8 _ _ _ _ _ _ _ (.inr ⟨⟨by omega, by omega⟩, by omega, by omega⟩)).mono ?_
  rintro e w3 ⟨kv, nv, tv, ev, gv, rfl, hb3⟩
  have Gv := Lib.hid gv; clear gv
  have va_3 : VAt w3 (w1.heap.size) ka na ta := VAt.on (by first | exact va_2 | exact va_2.up _ | exact (va_2.up _).up _ | exact ((va_2.up _).up _).up _ | exact VAt.mk (by first | assumption | (simp <;> omega)) (by go_simp) (by go_simp) (by go_simp)) hb3; clear va_2
  have vb_3 : VAt w3 (w2.heap.size) kb nb tb := VAt.on (by first | exact VAt.newAt _ _ _ _ _ (by simp) | exact (VAt.newAt _ _ _ _ _ (by simp)).up _ | exact ((VAt.newAt _ _ _ _ _ (by simp)).up _).up _ | exact VAt.mk (by first | assumption | (simp <;> omega)) (by go_simp) (by go_simp) (by go_simp)) hb3
  clear zlx zxx zyx zzx zly zxy zyy zzy zla zxa zya zza
  obtain ⟨zla, zxa, zya, zza⟩ := id va_3
  obtain ⟨zlb, zxb, zyb, zzb⟩ := id vb_3
  obtain ⟨bv0, bv1⟩ := twoR_bd2 Gv.out (by omega) (by omega) (by omega) (by omega)
  have Oa := Lib.hid (valueF_ok2 Ga.out); have Ob := Lib.hid (valueF_ok2 Gb.out)
  have hf : twoR 5 ⟨ka, na, ta⟩ ⟨kb, nb, tb⟩ = (⟨0, 0, ⟨#[]⟩⟩, 2) := two_none5 Ga.out Gb.out
  obtain ⟨f0, _⟩ := plainTwoTypes (K := 8) (by omega) (kind := 0) Ga.out Gb.out Gv.out hf
  clear hf
  rcases f0 with ⟨o, q1, q2, q3⟩ | ⟨o, q1, q2⟩ | ⟨o, q1, q2, q3⟩
  all_goals simp [okT] at o
  all_goals
    go_wp2_with fail
  all_goals refine (two5 _ _ _ _ _ _ _ (by first | exact Oa.out | (have h1 := Oa.out; simp_all; done)) (by first | exact Ob.out | (have h1 := Ob.out; simp_all; done))).mono ?_
  all_goals rintro e w4 ⟨rfl, hb4⟩
  all_goals have vv4 : VAt w4 w3.heap.size kv nv tv := VAt.on (VAt.newAt _ _ _ _ _ (by simp)) hb4
  all_goals obtain ⟨zl, zx, zy, zz⟩ := vv4
  all_goals go_wp2_with fail
  all_goals go_ret
  all_goals refine ⟨?_, ?_⟩
  all_goals first
    | exact rfl
    | ((repeat (first | exact Below.refl _ _ | refine ext_via ?_ (by assumption) | refine ext_al ?_ _ | refine ext_dr ?_ | refine ext_drN _ ?_ | refine ext_set ?_ (by first | omega | (simp <;> omega)) _)); done)
    | (show Ending.returned (.bool _) = _; refine congrArg (fun b => Ending.returned (.bool b)) ?_; simp; omega)
    | (show Ending.returned (.bool _) = _; refine congrArg (fun b => Ending.returned (.bool b)) ?_)
    | skip

set_option maxHeartbeats 1000000 in
theorem walkTwoTypes_5 (kind : Int) (wkind : (Lit.int .i64 kind).wf = true) (kx : Int) (wkx : (Lit.int .i64 kx).wf = true) (nx : Int) (wnx : (Lit.int .i64 nx).wf = true) (tx : ByteArray) (wtx : tx.size ≤ maxLen) (ky : Int) (wky : (Lit.int .i64 ky).wf = true) (ny : Int) (wny : (Lit.int .i64 ny).wf = true) (ty : ByteArray) (wty : ty.size ≤ maxLen) (hK : picked kind 7 = 5) (w : World) :
    Calls Try.prog 6 #[.int .i64 kind, .agg #[.int .i64 kx, .int .i64 nx, .string tx], .agg #[.int .i64 ky, .int .i64 ny, .string ty]] w fun e w' => e = .returned (.bool true) ∧ Below w.heap.size w w' := by
  obtain ⟨kind0, kind1⟩ := wf_bd wkind
  clear wkind
  obtain ⟨bkx0, bkx1⟩ := wf_bd wkx
  obtain ⟨bnx0, bnx1⟩ := wf_bd wnx
  clear wkx wnx
  obtain ⟨bky0, bky1⟩ := wf_bd wky
  obtain ⟨bny0, bny1⟩ := wf_bd wny
  clear wky wny
  go_enter Try.func6, Try.ntmps6
  go_wp2_with fail
  refine (value_any kx nx tx _ (by omega) (by omega) (by omega) (by omega) wtx).mono ?_
  rintro e w1 ⟨ka, na, ta, ga, rfl, hb1⟩
  have Ga := Lib.hid ga; clear ga
  have vx_1 : VAt w1 (w.heap.size) kx nx tx := VAt.on (by first | exact VAt.newAt _ _ _ _ _ (by simp) | exact (VAt.newAt _ _ _ _ _ (by simp)).up _ | exact ((VAt.newAt _ _ _ _ _ (by simp)).up _).up _ | exact VAt.mk (by first | assumption | (simp <;> omega)) (by go_simp) (by go_simp) (by go_simp)) hb1
  have vy_1 : VAt w1 (w.heap.size + 1) ky ny ty := VAt.on (by first | exact VAt.newAt _ _ _ _ _ (by simp) | exact (VAt.newAt _ _ _ _ _ (by simp)).up _ | exact ((VAt.newAt _ _ _ _ _ (by simp)).up _).up _ | exact VAt.mk (by first | assumption | (simp <;> omega)) (by go_simp) (by go_simp) (by go_simp)) hb1
  obtain ⟨zlx, zxx, zyx, zzx⟩ := id vx_1
  obtain ⟨zly, zxy, zyy, zzy⟩ := id vy_1
  obtain ⟨ba0, ba1⟩ := valueF_bd2 Ga.out (by omega) (by omega)
  go_wp2_with fail
  refine (value_any ky ny ty _ (by omega) (by omega) (by omega) (by omega) wty).mono ?_
  rintro e w2 ⟨kb, nb, tb, gb, rfl, hb2⟩
  have Gb := Lib.hid gb; clear gb
  have vx_2 : VAt w2 (w.heap.size) kx nx tx := VAt.on (by first | exact vx_1 | exact vx_1.up _ | exact (vx_1.up _).up _ | exact ((vx_1.up _).up _).up _ | exact VAt.mk (by first | assumption | (simp <;> omega)) (by go_simp) (by go_simp) (by go_simp)) hb2; clear vx_1
  have vy_2 : VAt w2 (w.heap.size + 1) ky ny ty := VAt.on (by first | exact vy_1 | exact vy_1.up _ | exact (vy_1.up _).up _ | exact ((vy_1.up _).up _).up _ | exact VAt.mk (by first | assumption | (simp <;> omega)) (by go_simp) (by go_simp) (by go_simp)) hb2; clear vy_1
  have va_2 : VAt w2 (w1.heap.size) ka na ta := VAt.on (by first | exact VAt.newAt _ _ _ _ _ (by simp) | exact (VAt.newAt _ _ _ _ _ (by simp)).up _ | exact ((VAt.newAt _ _ _ _ _ (by simp)).up _).up _ | exact VAt.mk (by first | assumption | (simp <;> omega)) (by go_simp) (by go_simp) (by go_simp)) hb2
  clear zlx zxx zyx zzx zly zxy zyy zzy
  obtain ⟨zlx, zxx, zyx, zzx⟩ := id vx_2
  obtain ⟨zly, zxy, zyy, zzy⟩ := id vy_2
  obtain ⟨zla, zxa, zya, zza⟩ := id va_2
  obtain ⟨bb0, bb1⟩ := valueF_bd2 Gb.out (by omega) (by omega)
  go_wp2_with fail
  refine (picked_any _ _ _ (by omega) (by omega) (by omega) (by omega)).mono ?_
  rintro e w' ⟨rfl, rfl⟩
  go_wp2_with fail
  refine (two_any 9 _ _ _ _ _ _ _ (.inr ⟨⟨by omega, by omega⟩, by omega, by omega⟩)).mono ?_
  rintro e w3 ⟨kv, nv, tv, ev, gv, rfl, hb3⟩
  have Gv := Lib.hid gv; clear gv
  have va_3 : VAt w3 (w1.heap.size) ka na ta := VAt.on (by first | exact va_2 | exact va_2.up _ | exact (va_2.up _).up _ | exact ((va_2.up _).up _).up _ | exact VAt.mk (by first | assumption | (simp <;> omega)) (by go_simp) (by go_simp) (by go_simp)) hb3; clear va_2
  have vb_3 : VAt w3 (w2.heap.size) kb nb tb := VAt.on (by first | exact VAt.newAt _ _ _ _ _ (by simp) | exact (VAt.newAt _ _ _ _ _ (by simp)).up _ | exact ((VAt.newAt _ _ _ _ _ (by simp)).up _).up _ | exact VAt.mk (by first | assumption | (simp <;> omega)) (by go_simp) (by go_simp) (by go_simp)) hb3
  clear zlx zxx zyx zzx zly zxy zyy zzy zla zxa zya zza
  obtain ⟨zla, zxa, zya, zza⟩ := id va_3
  obtain ⟨zlb, zxb, zyb, zzb⟩ := id vb_3
  obtain ⟨bv0, bv1⟩ := twoR_bd2 Gv.out (by omega) (by omega) (by omega) (by omega)
  have Oa := Lib.hid (valueF_ok2 Ga.out); have Ob := Lib.hid (valueF_ok2 Gb.out)
  have hf : twoR 5 ⟨ka, na, ta⟩ ⟨kb, nb, tb⟩ = (⟨0, 0, ⟨#[]⟩⟩, 2) := two_none5 Ga.out Gb.out
  obtain ⟨f0, _⟩ := plainTwoTypes (K := 9) (by omega) (kind := 0) Ga.out Gb.out Gv.out hf
  clear hf
  rcases f0 with ⟨o, q1, q2, q3⟩ | ⟨o, q1, q2⟩ | ⟨o, q1, q2, q3⟩
  all_goals simp [okT] at o
  all_goals
    go_wp2_with fail
  all_goals refine (two5 _ _ _ _ _ _ _ (by first | exact Oa.out | (have h1 := Oa.out; simp_all; done)) (by first | exact Ob.out | (have h1 := Ob.out; simp_all; done))).mono ?_
  all_goals rintro e w4 ⟨rfl, hb4⟩
  all_goals have vv4 : VAt w4 w3.heap.size kv nv tv := VAt.on (VAt.newAt _ _ _ _ _ (by simp)) hb4
  all_goals obtain ⟨zl, zx, zy, zz⟩ := vv4
  all_goals go_wp2_with fail
  all_goals go_ret
  all_goals refine ⟨?_, ?_⟩
  all_goals first
    | exact rfl
    | ((repeat (first | exact Below.refl _ _ | refine ext_via ?_ (by assumption) | refine ext_al ?_ _ | refine ext_dr ?_ | refine ext_drN _ ?_ | refine ext_set ?_ (by first | omega | (simp <;> omega)) _)); done)
    | (show Ending.returned (.bool _) = _; refine congrArg (fun b => Ending.returned (.bool b)) ?_; simp; omega)
    | (show Ending.returned (.bool _) = _; refine congrArg (fun b => Ending.returned (.bool b)) ?_)
    | skip

set_option maxHeartbeats 1000000 in
theorem walkTwoTypes_6 (kind : Int) (wkind : (Lit.int .i64 kind).wf = true) (kx : Int) (wkx : (Lit.int .i64 kx).wf = true) (nx : Int) (wnx : (Lit.int .i64 nx).wf = true) (tx : ByteArray) (wtx : tx.size ≤ maxLen) (ky : Int) (wky : (Lit.int .i64 ky).wf = true) (ny : Int) (wny : (Lit.int .i64 ny).wf = true) (ty : ByteArray) (wty : ty.size ≤ maxLen) (hK : picked kind 7 = 6) (w : World) :
    Calls Try.prog 6 #[.int .i64 kind, .agg #[.int .i64 kx, .int .i64 nx, .string tx], .agg #[.int .i64 ky, .int .i64 ny, .string ty]] w fun e w' => e = .returned (.bool true) ∧ Below w.heap.size w w' := by
  obtain ⟨kind0, kind1⟩ := wf_bd wkind
  clear wkind
  obtain ⟨bkx0, bkx1⟩ := wf_bd wkx
  obtain ⟨bnx0, bnx1⟩ := wf_bd wnx
  clear wkx wnx
  obtain ⟨bky0, bky1⟩ := wf_bd wky
  obtain ⟨bny0, bny1⟩ := wf_bd wny
  clear wky wny
  go_enter Try.func6, Try.ntmps6
  go_wp2_with fail
  refine (value_any kx nx tx _ (by omega) (by omega) (by omega) (by omega) wtx).mono ?_
  rintro e w1 ⟨ka, na, ta, ga, rfl, hb1⟩
  have Ga := Lib.hid ga; clear ga
  have vx_1 : VAt w1 (w.heap.size) kx nx tx := VAt.on (by first | exact VAt.newAt _ _ _ _ _ (by simp) | exact (VAt.newAt _ _ _ _ _ (by simp)).up _ | exact ((VAt.newAt _ _ _ _ _ (by simp)).up _).up _ | exact VAt.mk (by first | assumption | (simp <;> omega)) (by go_simp) (by go_simp) (by go_simp)) hb1
  have vy_1 : VAt w1 (w.heap.size + 1) ky ny ty := VAt.on (by first | exact VAt.newAt _ _ _ _ _ (by simp) | exact (VAt.newAt _ _ _ _ _ (by simp)).up _ | exact ((VAt.newAt _ _ _ _ _ (by simp)).up _).up _ | exact VAt.mk (by first | assumption | (simp <;> omega)) (by go_simp) (by go_simp) (by go_simp)) hb1
  obtain ⟨zlx, zxx, zyx, zzx⟩ := id vx_1
  obtain ⟨zly, zxy, zyy, zzy⟩ := id vy_1
  obtain ⟨ba0, ba1⟩ := valueF_bd2 Ga.out (by omega) (by omega)
  go_wp2_with fail
  refine (value_any ky ny ty _ (by omega) (by omega) (by omega) (by omega) wty).mono ?_
  rintro e w2 ⟨kb, nb, tb, gb, rfl, hb2⟩
  have Gb := Lib.hid gb; clear gb
  have vx_2 : VAt w2 (w.heap.size) kx nx tx := VAt.on (by first | exact vx_1 | exact vx_1.up _ | exact (vx_1.up _).up _ | exact ((vx_1.up _).up _).up _ | exact VAt.mk (by first | assumption | (simp <;> omega)) (by go_simp) (by go_simp) (by go_simp)) hb2; clear vx_1
  have vy_2 : VAt w2 (w.heap.size + 1) ky ny ty := VAt.on (by first | exact vy_1 | exact vy_1.up _ | exact (vy_1.up _).up _ | exact ((vy_1.up _).up _).up _ | exact VAt.mk (by first | assumption | (simp <;> omega)) (by go_simp) (by go_simp) (by go_simp)) hb2; clear vy_1
  have va_2 : VAt w2 (w1.heap.size) ka na ta := VAt.on (by first | exact VAt.newAt _ _ _ _ _ (by simp) | exact (VAt.newAt _ _ _ _ _ (by simp)).up _ | exact ((VAt.newAt _ _ _ _ _ (by simp)).up _).up _ | exact VAt.mk (by first | assumption | (simp <;> omega)) (by go_simp) (by go_simp) (by go_simp)) hb2
  clear zlx zxx zyx zzx zly zxy zyy zzy
  obtain ⟨zlx, zxx, zyx, zzx⟩ := id vx_2
  obtain ⟨zly, zxy, zyy, zzy⟩ := id vy_2
  obtain ⟨zla, zxa, zya, zza⟩ := id va_2
  obtain ⟨bb0, bb1⟩ := valueF_bd2 Gb.out (by omega) (by omega)
  go_wp2_with fail
  refine (picked_any _ _ _ (by omega) (by omega) (by omega) (by omega)).mono ?_
  rintro e w' ⟨rfl, rfl⟩
  go_wp2_with fail
  refine (two_any 10 _ _ _ _ _ _ _ (.inr ⟨⟨by omega, by omega⟩, by omega, by omega⟩)).mono ?_
  rintro e w3 ⟨kv, nv, tv, ev, gv, rfl, hb3⟩
  have Gv := Lib.hid gv; clear gv
  have va_3 : VAt w3 (w1.heap.size) ka na ta := VAt.on (by first | exact va_2 | exact va_2.up _ | exact (va_2.up _).up _ | exact ((va_2.up _).up _).up _ | exact VAt.mk (by first | assumption | (simp <;> omega)) (by go_simp) (by go_simp) (by go_simp)) hb3; clear va_2
  have vb_3 : VAt w3 (w2.heap.size) kb nb tb := VAt.on (by first | exact VAt.newAt _ _ _ _ _ (by simp) | exact (VAt.newAt _ _ _ _ _ (by simp)).up _ | exact ((VAt.newAt _ _ _ _ _ (by simp)).up _).up _ | exact VAt.mk (by first | assumption | (simp <;> omega)) (by go_simp) (by go_simp) (by go_simp)) hb3
  clear zlx zxx zyx zzx zly zxy zyy zzy zla zxa zya zza
  obtain ⟨zla, zxa, zya, zza⟩ := id va_3
  obtain ⟨zlb, zxb, zyb, zzb⟩ := id vb_3
  obtain ⟨bv0, bv1⟩ := twoR_bd2 Gv.out (by omega) (by omega) (by omega) (by omega)
  have Oa := Lib.hid (valueF_ok2 Ga.out); have Ob := Lib.hid (valueF_ok2 Gb.out)
  have hf : twoR 5 ⟨ka, na, ta⟩ ⟨kb, nb, tb⟩ = (⟨0, 0, ⟨#[]⟩⟩, 2) := two_none5 Ga.out Gb.out
  obtain ⟨f0, _⟩ := plainTwoTypes (K := 10) (by omega) (kind := 0) Ga.out Gb.out Gv.out hf
  clear hf
  rcases f0 with ⟨o, q1, q2, q3⟩ | ⟨o, q1, q2⟩ | ⟨o, q1, q2, q3⟩
  all_goals simp [okT] at o
  all_goals
    go_wp2_with fail
  all_goals refine (two5 _ _ _ _ _ _ _ (by first | exact Oa.out | (have h1 := Oa.out; simp_all; done)) (by first | exact Ob.out | (have h1 := Ob.out; simp_all; done))).mono ?_
  all_goals rintro e w4 ⟨rfl, hb4⟩
  all_goals have vv4 : VAt w4 w3.heap.size kv nv tv := VAt.on (VAt.newAt _ _ _ _ _ (by simp)) hb4
  all_goals obtain ⟨zl, zx, zy, zz⟩ := vv4
  all_goals go_wp2_with fail
  all_goals go_ret
  all_goals refine ⟨?_, ?_⟩
  all_goals first
    | exact rfl
    | ((repeat (first | exact Below.refl _ _ | refine ext_via ?_ (by assumption) | refine ext_al ?_ _ | refine ext_dr ?_ | refine ext_drN _ ?_ | refine ext_set ?_ (by first | omega | (simp <;> omega)) _)); done)
    | (show Ending.returned (.bool _) = _; refine congrArg (fun b => Ending.returned (.bool b)) ?_; simp; omega)
    | (show Ending.returned (.bool _) = _; refine congrArg (fun b => Ending.returned (.bool b)) ?_)
    | skip

set_option maxHeartbeats 1000000 in
theorem walkTwoTypes (kind : Int) (wkind : (Lit.int .i64 kind).wf = true) (kx : Int) (wkx : (Lit.int .i64 kx).wf = true) (nx : Int) (wnx : (Lit.int .i64 nx).wf = true) (tx : ByteArray) (wtx : tx.size ≤ maxLen) (ky : Int) (wky : (Lit.int .i64 ky).wf = true) (ny : Int) (wny : (Lit.int .i64 ny).wf = true) (ty : ByteArray) (wty : ty.size ≤ maxLen) (w : World) :
    Calls Try.prog 6 #[.int .i64 kind, .agg #[.int .i64 kx, .int .i64 nx, .string tx], .agg #[.int .i64 ky, .int .i64 ny, .string ty]] w fun e w' => e = .returned (.bool true) ∧ Below w.heap.size w w' := by
  have hK : picked kind 7 = 0 ∨ picked kind 7 = 1 ∨ picked kind 7 = 2 ∨ picked kind 7 = 3 ∨ picked kind 7 = 4 ∨ picked kind 7 = 5 ∨ picked kind 7 = 6 := by have := picked_bd kind 7 (by omega); omega
  rcases hK with hK | hK | hK | hK | hK | hK | hK
  · exact walkTwoTypes_0 kind wkind kx wkx nx wnx tx wtx ky wky ny wny ty wty hK w
  · exact walkTwoTypes_1 kind wkind kx wkx nx wnx tx wtx ky wky ny wny ty wty hK w
  · exact walkTwoTypes_2 kind wkind kx wkx nx wnx tx wtx ky wky ny wny ty wty hK w
  · exact walkTwoTypes_3 kind wkind kx wkx nx wnx tx wtx ky wky ny wny ty wty hK w
  · exact walkTwoTypes_4 kind wkind kx wkx nx wnx tx wtx ky wky ny wny ty wty hK w
  · exact walkTwoTypes_5 kind wkind kx wkx nx wnx tx wtx ky wky ny wny ty wty hK w
  · exact walkTwoTypes_6 kind wkind kx wkx nx wnx tx wtx ky wky ny wny ty wty hK w

end Go.Proofs.Ytiaeeahoipakcaa.Vl
