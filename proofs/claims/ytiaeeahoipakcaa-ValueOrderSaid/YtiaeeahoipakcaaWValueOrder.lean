/-
  The walk of the law ValueOrder.
-/
import Derived.Test.YtiaeeahoipakcaaVord
namespace Go.Proofs.Ytiaeeahoipakcaa.Vl
open Go.RowKit Kit
set_option linter.unusedVariables false
set_option linter.unusedSimpArgs false

set_option maxHeartbeats 4000000 in
theorem plainValueOrder {kx nx : Int} {tx : ByteArray} {ky ny : Int} {ty : ByteArray} {kz nz : Int} {tz : ByteArray} {ka na kb nb kc nc : Int} {ta tb tc : ByteArray} {ef : Int} {eg : Int} {eh : Int} {ei : Int} {ej : Int} {cf : Int} {cg : Int} {ch : Int} {ci : Int} {cj : Int}
    (ga : valueF kx nx tx = ⟨ka, na, ta⟩)
    (gb : valueF ky ny ty = ⟨kb, nb, tb⟩)
    (gc : valueF kz nz tz = ⟨kc, nc, tc⟩)
    (gf : cmp2R ka na ta kb nb tb = (cf, ef))
    (gg : cmp2R kb nb tb ka na ta = (cg, eg))
    (gh : cmp2R kb nb tb kc nc tc = (ch, eh))
    (gi : cmp2R ka na ta kc nc tc = (ci, ei))
    (gj : cmp2R 0 0 ⟨#[]⟩ 1 0 ⟨#[]⟩ = (cj, ej))
    : (ef != 0) = false ∧ (eg != 0) = false ∧ (eh != 0) = false ∧ (ei != 0) = false ∧ (ej != 0) = false ∧ (cj != -1) = false ∧ (-1 ≤ cg ∧ cg ≤ 1 ∧ -1 ≤ cf ∧ cf ≤ 1 ∧ -1 ≤ ch ∧ ch ≤ 1) ∧ (cf != -cg) = false ∧ veqB ka na ta kb nb tb = (cf == 0) ∧ (0 < cf ∨ (cf ≤ 0 ∧ 0 < ch) ∨ (cf ≤ 0 ∧ ch ≤ 0 ∧ ci ≤ 0 ∧ ((cf < 0 ∧ ci < 0) ∨ (0 ≤ cf ∧ ch < 0 ∧ ci < 0) ∨ (0 ≤ cf ∧ 0 ≤ ch ∧ 0 ≤ ci)))) := by
  have oa := valueF_ok kx nx tx; rw [ga] at oa
  have ob := valueF_ok ky ny ty; rw [gb] at ob
  have oc := valueF_ok kz nz tz; rw [gc] at oc
  have nilB := nilBytes
  simp only at oa ob oc
  simp only [cmp2R, bothF, oa, ob, oc, if_true, Prod.mk.injEq] at gf gg gh gi
  obtain ⟨rfl, rfl⟩ := gf
  obtain ⟨rfl, rfl⟩ := gg
  obtain ⟨rfl, rfl⟩ := gh
  obtain ⟨rfl, rfl⟩ := gi
  have hj : cmp2R 0 0 ⟨#[]⟩ 1 0 ⟨#[]⟩ = (-1, 0) := by simp [cmp2R, bothF, checkF, nilB, cmpF, or3F, Lib.compareInt]
  rw [hj] at gj
  obtain ⟨rfl, rfl⟩ := Prod.mk.inj gj
  have v1 := cmpF_val ka na ta kb nb tb
  have v2 := cmpF_val kb nb tb kc nc tc
  have tr := cmpF_trans ka na ta kb nb tb kc nc tc
  refine ⟨rfl, rfl, rfl, rfl, rfl, rfl, by omega, by simp; omega, ?_, by omega⟩
  rcases v1 with ⟨h, _, e⟩ | ⟨h, _, e⟩ | ⟨h, _, e⟩ <;> rw [h, e] <;> rfl

set_option maxHeartbeats 1000000 in
theorem walkValueOrder (kx : Int) (wkx : (Lit.int .i64 kx).wf = true) (nx : Int) (wnx : (Lit.int .i64 nx).wf = true) (tx : ByteArray) (wtx : tx.size ≤ maxLen) (ky : Int) (wky : (Lit.int .i64 ky).wf = true) (ny : Int) (wny : (Lit.int .i64 ny).wf = true) (ty : ByteArray) (wty : ty.size ≤ maxLen) (kz : Int) (wkz : (Lit.int .i64 kz).wf = true) (nz : Int) (wnz : (Lit.int .i64 nz).wf = true) (tz : ByteArray) (wtz : tz.size ≤ maxLen) (w : World) :
    Calls Try.prog 3 #[.agg #[.int .i64 kx, .int .i64 nx, .string tx], .agg #[.int .i64 ky, .int .i64 ny, .string ty], .agg #[.int .i64 kz, .int .i64 nz, .string tz]] w fun e w' => e = .returned (.bool true) ∧ Below w.heap.size w w' := by
  obtain ⟨bkx0, bkx1⟩ := wf_bd wkx
  obtain ⟨bnx0, bnx1⟩ := wf_bd wnx
  clear wkx wnx
  obtain ⟨bky0, bky1⟩ := wf_bd wky
  obtain ⟨bny0, bny1⟩ := wf_bd wny
  clear wky wny
  obtain ⟨bkz0, bkz1⟩ := wf_bd wkz
  obtain ⟨bnz0, bnz1⟩ := wf_bd wnz
  clear wkz wnz
  go_enter Try.func3, Try.ntmps3
  go_wp2_with fail
  refine (value_any kx nx tx _ (by omega) (by omega) (by omega) (by omega) wtx).mono ?_
  rintro e w1 ⟨ka, na, ta, ga, rfl, hb1⟩
  have Ga := Lib.hid ga; clear ga
  have vx_1 : VAt w1 (w.heap.size) kx nx tx := VAt.on (by first | exact VAt.newAt _ _ _ _ _ (by simp) | exact (VAt.newAt _ _ _ _ _ (by simp)).up _ | exact ((VAt.newAt _ _ _ _ _ (by simp)).up _).up _ | exact VAt.mk (by first | assumption | (simp <;> omega)) (by go_simp) (by go_simp) (by go_simp)) hb1
  have vy_1 : VAt w1 (w.heap.size + 1) ky ny ty := VAt.on (by first | exact VAt.newAt _ _ _ _ _ (by simp) | exact (VAt.newAt _ _ _ _ _ (by simp)).up _ | exact ((VAt.newAt _ _ _ _ _ (by simp)).up _).up _ | exact VAt.mk (by first | assumption | (simp <;> omega)) (by go_simp) (by go_simp) (by go_simp)) hb1
  have vz_1 : VAt w1 (w.heap.size + 1 + 1) kz nz tz := VAt.on (by first | exact VAt.newAt _ _ _ _ _ (by simp) | exact (VAt.newAt _ _ _ _ _ (by simp)).up _ | exact ((VAt.newAt _ _ _ _ _ (by simp)).up _).up _ | exact VAt.mk (by first | assumption | (simp <;> omega)) (by go_simp) (by go_simp) (by go_simp)) hb1
  obtain ⟨zlx, zxx, zyx, zzx⟩ := id vx_1
  obtain ⟨zly, zxy, zyy, zzy⟩ := id vy_1
  obtain ⟨zlz, zxz, zyz, zzz⟩ := id vz_1
  go_wp2_with fail
  refine (value_any ky ny ty _ (by omega) (by omega) (by omega) (by omega) wty).mono ?_
  rintro e w2 ⟨kb, nb, tb, gb, rfl, hb2⟩
  have Gb := Lib.hid gb; clear gb
  have vx_2 : VAt w2 (w.heap.size) kx nx tx := VAt.on (by first | exact vx_1 | exact vx_1.up _ | exact (vx_1.up _).up _ | exact ((vx_1.up _).up _).up _ | exact VAt.mk (by first | assumption | (simp <;> omega)) (by go_simp) (by go_simp) (by go_simp)) hb2; clear vx_1
  have vy_2 : VAt w2 (w.heap.size + 1) ky ny ty := VAt.on (by first | exact vy_1 | exact vy_1.up _ | exact (vy_1.up _).up _ | exact ((vy_1.up _).up _).up _ | exact VAt.mk (by first | assumption | (simp <;> omega)) (by go_simp) (by go_simp) (by go_simp)) hb2; clear vy_1
  have vz_2 : VAt w2 (w.heap.size + 1 + 1) kz nz tz := VAt.on (by first | exact vz_1 | exact vz_1.up _ | exact (vz_1.up _).up _ | exact ((vz_1.up _).up _).up _ | exact VAt.mk (by first | assumption | (simp <;> omega)) (by go_simp) (by go_simp) (by go_simp)) hb2; clear vz_1
  have va_2 : VAt w2 (w1.heap.size) ka na ta := VAt.on (by first | exact VAt.newAt _ _ _ _ _ (by simp) | exact (VAt.newAt _ _ _ _ _ (by simp)).up _ | exact ((VAt.newAt _ _ _ _ _ (by simp)).up _).up _ | exact VAt.mk (by first | assumption | (simp <;> omega)) (by go_simp) (by go_simp) (by go_simp)) hb2
  clear zlx zxx zyx zzx zly zxy zyy zzy zlz zxz zyz zzz
  obtain ⟨zlx, zxx, zyx, zzx⟩ := id vx_2
  obtain ⟨zly, zxy, zyy, zzy⟩ := id vy_2
  obtain ⟨zlz, zxz, zyz, zzz⟩ := id vz_2
  obtain ⟨zla, zxa, zya, zza⟩ := id va_2
  go_wp2_with fail
  refine (value_any kz nz tz _ (by omega) (by omega) (by omega) (by omega) wtz).mono ?_
  rintro e w3 ⟨kc, nc, tc, gc, rfl, hb3⟩
  have Gc := Lib.hid gc; clear gc
  have vx_3 : VAt w3 (w.heap.size) kx nx tx := VAt.on (by first | exact vx_2 | exact vx_2.up _ | exact (vx_2.up _).up _ | exact ((vx_2.up _).up _).up _ | exact VAt.mk (by first | assumption | (simp <;> omega)) (by go_simp) (by go_simp) (by go_simp)) hb3; clear vx_2
  have vy_3 : VAt w3 (w.heap.size + 1) ky ny ty := VAt.on (by first | exact vy_2 | exact vy_2.up _ | exact (vy_2.up _).up _ | exact ((vy_2.up _).up _).up _ | exact VAt.mk (by first | assumption | (simp <;> omega)) (by go_simp) (by go_simp) (by go_simp)) hb3; clear vy_2
  have vz_3 : VAt w3 (w.heap.size + 1 + 1) kz nz tz := VAt.on (by first | exact vz_2 | exact vz_2.up _ | exact (vz_2.up _).up _ | exact ((vz_2.up _).up _).up _ | exact VAt.mk (by first | assumption | (simp <;> omega)) (by go_simp) (by go_simp) (by go_simp)) hb3; clear vz_2
  have va_3 : VAt w3 (w1.heap.size) ka na ta := VAt.on (by first | exact va_2 | exact va_2.up _ | exact (va_2.up _).up _ | exact ((va_2.up _).up _).up _ | exact VAt.mk (by first | assumption | (simp <;> omega)) (by go_simp) (by go_simp) (by go_simp)) hb3; clear va_2
  have vb_3 : VAt w3 (w2.heap.size) kb nb tb := VAt.on (by first | exact VAt.newAt _ _ _ _ _ (by simp) | exact (VAt.newAt _ _ _ _ _ (by simp)).up _ | exact ((VAt.newAt _ _ _ _ _ (by simp)).up _).up _ | exact VAt.mk (by first | assumption | (simp <;> omega)) (by go_simp) (by go_simp) (by go_simp)) hb3
  clear zlx zxx zyx zzx zly zxy zyy zzy zlz zxz zyz zzz zla zxa zya zza
  obtain ⟨zlx, zxx, zyx, zzx⟩ := id vx_3
  obtain ⟨zly, zxy, zyy, zzy⟩ := id vy_3
  obtain ⟨zlz, zxz, zyz, zzz⟩ := id vz_3
  obtain ⟨zla, zxa, zya, zza⟩ := id va_3
  obtain ⟨zlb, zxb, zyb, zzb⟩ := id vb_3
  go_wp2_with fail
  refine (compare2_got _ _ _ _ _ _ _).mono ?_
  rintro e w4 ⟨cf, ef, gf, rfl, hb4⟩
  have Gf := Lib.hid gf; clear gf
  have vx_4 : VAt w4 (w.heap.size) kx nx tx := VAt.on (by first | exact vx_3 | exact vx_3.up _ | exact (vx_3.up _).up _ | exact ((vx_3.up _).up _).up _ | exact VAt.mk (by first | assumption | (simp <;> omega)) (by go_simp) (by go_simp) (by go_simp)) hb4; clear vx_3
  have vy_4 : VAt w4 (w.heap.size + 1) ky ny ty := VAt.on (by first | exact vy_3 | exact vy_3.up _ | exact (vy_3.up _).up _ | exact ((vy_3.up _).up _).up _ | exact VAt.mk (by first | assumption | (simp <;> omega)) (by go_simp) (by go_simp) (by go_simp)) hb4; clear vy_3
  have vz_4 : VAt w4 (w.heap.size + 1 + 1) kz nz tz := VAt.on (by first | exact vz_3 | exact vz_3.up _ | exact (vz_3.up _).up _ | exact ((vz_3.up _).up _).up _ | exact VAt.mk (by first | assumption | (simp <;> omega)) (by go_simp) (by go_simp) (by go_simp)) hb4; clear vz_3
  have va_4 : VAt w4 (w1.heap.size) ka na ta := VAt.on (by first | exact va_3 | exact va_3.up _ | exact (va_3.up _).up _ | exact ((va_3.up _).up _).up _ | exact VAt.mk (by first | assumption | (simp <;> omega)) (by go_simp) (by go_simp) (by go_simp)) hb4; clear va_3
  have vb_4 : VAt w4 (w2.heap.size) kb nb tb := VAt.on (by first | exact vb_3 | exact vb_3.up _ | exact (vb_3.up _).up _ | exact ((vb_3.up _).up _).up _ | exact VAt.mk (by first | assumption | (simp <;> omega)) (by go_simp) (by go_simp) (by go_simp)) hb4; clear vb_3
  have vc_4 : VAt w4 (w3.heap.size) kc nc tc := VAt.on (by first | exact VAt.newAt _ _ _ _ _ (by simp) | exact (VAt.newAt _ _ _ _ _ (by simp)).up _ | exact ((VAt.newAt _ _ _ _ _ (by simp)).up _).up _ | exact VAt.mk (by first | assumption | (simp <;> omega)) (by go_simp) (by go_simp) (by go_simp)) hb4
  clear zlx zxx zyx zzx zly zxy zyy zzy zlz zxz zyz zzz zla zxa zya zza zlb zxb zyb zzb
  obtain ⟨zlx, zxx, zyx, zzx⟩ := id vx_4
  obtain ⟨zly, zxy, zyy, zzy⟩ := id vy_4
  obtain ⟨zlz, zxz, zyz, zzz⟩ := id vz_4
  obtain ⟨zla, zxa, zya, zza⟩ := id va_4
  obtain ⟨zlb, zxb, zyb, zzb⟩ := id vb_4
  obtain ⟨zlc, zxc, zyc, zzc⟩ := id vc_4
  go_wp2_with fail
  refine (compare2_got _ _ _ _ _ _ _).mono ?_
  rintro e w5 ⟨cg, eg, gg, rfl, hb5⟩
  have Gg := Lib.hid gg; clear gg
  have vx_5 : VAt w5 (w.heap.size) kx nx tx := VAt.on (by first | exact vx_4 | exact vx_4.up _ | exact (vx_4.up _).up _ | exact ((vx_4.up _).up _).up _ | exact VAt.mk (by first | assumption | (simp <;> omega)) (by go_simp) (by go_simp) (by go_simp)) hb5; clear vx_4
  have vy_5 : VAt w5 (w.heap.size + 1) ky ny ty := VAt.on (by first | exact vy_4 | exact vy_4.up _ | exact (vy_4.up _).up _ | exact ((vy_4.up _).up _).up _ | exact VAt.mk (by first | assumption | (simp <;> omega)) (by go_simp) (by go_simp) (by go_simp)) hb5; clear vy_4
  have vz_5 : VAt w5 (w.heap.size + 1 + 1) kz nz tz := VAt.on (by first | exact vz_4 | exact vz_4.up _ | exact (vz_4.up _).up _ | exact ((vz_4.up _).up _).up _ | exact VAt.mk (by first | assumption | (simp <;> omega)) (by go_simp) (by go_simp) (by go_simp)) hb5; clear vz_4
  have va_5 : VAt w5 (w1.heap.size) ka na ta := VAt.on (by first | exact va_4 | exact va_4.up _ | exact (va_4.up _).up _ | exact ((va_4.up _).up _).up _ | exact VAt.mk (by first | assumption | (simp <;> omega)) (by go_simp) (by go_simp) (by go_simp)) hb5; clear va_4
  have vb_5 : VAt w5 (w2.heap.size) kb nb tb := VAt.on (by first | exact vb_4 | exact vb_4.up _ | exact (vb_4.up _).up _ | exact ((vb_4.up _).up _).up _ | exact VAt.mk (by first | assumption | (simp <;> omega)) (by go_simp) (by go_simp) (by go_simp)) hb5; clear vb_4
  have vc_5 : VAt w5 (w3.heap.size) kc nc tc := VAt.on (by first | exact vc_4 | exact vc_4.up _ | exact (vc_4.up _).up _ | exact ((vc_4.up _).up _).up _ | exact VAt.mk (by first | assumption | (simp <;> omega)) (by go_simp) (by go_simp) (by go_simp)) hb5; clear vc_4
  clear zlx zxx zyx zzx zly zxy zyy zzy zlz zxz zyz zzz zla zxa zya zza zlb zxb zyb zzb zlc zxc zyc zzc
  obtain ⟨zlx, zxx, zyx, zzx⟩ := id vx_5
  obtain ⟨zly, zxy, zyy, zzy⟩ := id vy_5
  obtain ⟨zlz, zxz, zyz, zzz⟩ := id vz_5
  obtain ⟨zla, zxa, zya, zza⟩ := id va_5
  obtain ⟨zlb, zxb, zyb, zzb⟩ := id vb_5
  obtain ⟨zlc, zxc, zyc, zzc⟩ := id vc_5
  go_wp2_with fail
  refine (compare2_got _ _ _ _ _ _ _).mono ?_
  rintro e w6 ⟨ch, eh, gh, rfl, hb6⟩
  have Gh := Lib.hid gh; clear gh
  have vx_6 : VAt w6 (w.heap.size) kx nx tx := VAt.on (by first | exact vx_5 | exact vx_5.up _ | exact (vx_5.up _).up _ | exact ((vx_5.up _).up _).up _ | exact VAt.mk (by first | assumption | (simp <;> omega)) (by go_simp) (by go_simp) (by go_simp)) hb6; clear vx_5
  have vy_6 : VAt w6 (w.heap.size + 1) ky ny ty := VAt.on (by first | exact vy_5 | exact vy_5.up _ | exact (vy_5.up _).up _ | exact ((vy_5.up _).up _).up _ | exact VAt.mk (by first | assumption | (simp <;> omega)) (by go_simp) (by go_simp) (by go_simp)) hb6; clear vy_5
  have vz_6 : VAt w6 (w.heap.size + 1 + 1) kz nz tz := VAt.on (by first | exact vz_5 | exact vz_5.up _ | exact (vz_5.up _).up _ | exact ((vz_5.up _).up _).up _ | exact VAt.mk (by first | assumption | (simp <;> omega)) (by go_simp) (by go_simp) (by go_simp)) hb6; clear vz_5
  have va_6 : VAt w6 (w1.heap.size) ka na ta := VAt.on (by first | exact va_5 | exact va_5.up _ | exact (va_5.up _).up _ | exact ((va_5.up _).up _).up _ | exact VAt.mk (by first | assumption | (simp <;> omega)) (by go_simp) (by go_simp) (by go_simp)) hb6; clear va_5
  have vb_6 : VAt w6 (w2.heap.size) kb nb tb := VAt.on (by first | exact vb_5 | exact vb_5.up _ | exact (vb_5.up _).up _ | exact ((vb_5.up _).up _).up _ | exact VAt.mk (by first | assumption | (simp <;> omega)) (by go_simp) (by go_simp) (by go_simp)) hb6; clear vb_5
  have vc_6 : VAt w6 (w3.heap.size) kc nc tc := VAt.on (by first | exact vc_5 | exact vc_5.up _ | exact (vc_5.up _).up _ | exact ((vc_5.up _).up _).up _ | exact VAt.mk (by first | assumption | (simp <;> omega)) (by go_simp) (by go_simp) (by go_simp)) hb6; clear vc_5
  clear zlx zxx zyx zzx zly zxy zyy zzy zlz zxz zyz zzz zla zxa zya zza zlb zxb zyb zzb zlc zxc zyc zzc
  obtain ⟨zlx, zxx, zyx, zzx⟩ := id vx_6
  obtain ⟨zly, zxy, zyy, zzy⟩ := id vy_6
  obtain ⟨zlz, zxz, zyz, zzz⟩ := id vz_6
  obtain ⟨zla, zxa, zya, zza⟩ := id va_6
  obtain ⟨zlb, zxb, zyb, zzb⟩ := id vb_6
  obtain ⟨zlc, zxc, zyc, zzc⟩ := id vc_6
  go_wp2_with fail
  refine (compare2_got _ _ _ _ _ _ _).mono ?_
  rintro e w7 ⟨ci, ei, gi, rfl, hb7⟩
  have Gi := Lib.hid gi; clear gi
  have vx_7 : VAt w7 (w.heap.size) kx nx tx := VAt.on (by first | exact vx_6 | exact vx_6.up _ | exact (vx_6.up _).up _ | exact ((vx_6.up _).up _).up _ | exact VAt.mk (by first | assumption | (simp <;> omega)) (by go_simp) (by go_simp) (by go_simp)) hb7; clear vx_6
  have vy_7 : VAt w7 (w.heap.size + 1) ky ny ty := VAt.on (by first | exact vy_6 | exact vy_6.up _ | exact (vy_6.up _).up _ | exact ((vy_6.up _).up _).up _ | exact VAt.mk (by first | assumption | (simp <;> omega)) (by go_simp) (by go_simp) (by go_simp)) hb7; clear vy_6
  have vz_7 : VAt w7 (w.heap.size + 1 + 1) kz nz tz := VAt.on (by first | exact vz_6 | exact vz_6.up _ | exact (vz_6.up _).up _ | exact ((vz_6.up _).up _).up _ | exact VAt.mk (by first | assumption | (simp <;> omega)) (by go_simp) (by go_simp) (by go_simp)) hb7; clear vz_6
  have va_7 : VAt w7 (w1.heap.size) ka na ta := VAt.on (by first | exact va_6 | exact va_6.up _ | exact (va_6.up _).up _ | exact ((va_6.up _).up _).up _ | exact VAt.mk (by first | assumption | (simp <;> omega)) (by go_simp) (by go_simp) (by go_simp)) hb7; clear va_6
  have vb_7 : VAt w7 (w2.heap.size) kb nb tb := VAt.on (by first | exact vb_6 | exact vb_6.up _ | exact (vb_6.up _).up _ | exact ((vb_6.up _).up _).up _ | exact VAt.mk (by first | assumption | (simp <;> omega)) (by go_simp) (by go_simp) (by go_simp)) hb7; clear vb_6
  have vc_7 : VAt w7 (w3.heap.size) kc nc tc := VAt.on (by first | exact vc_6 | exact vc_6.up _ | exact (vc_6.up _).up _ | exact ((vc_6.up _).up _).up _ | exact VAt.mk (by first | assumption | (simp <;> omega)) (by go_simp) (by go_simp) (by go_simp)) hb7; clear vc_6
  clear zlx zxx zyx zzx zly zxy zyy zzy zlz zxz zyz zzz zla zxa zya zza zlb zxb zyb zzb zlc zxc zyc zzc
  obtain ⟨zlx, zxx, zyx, zzx⟩ := id vx_7
  obtain ⟨zly, zxy, zyy, zzy⟩ := id vy_7
  obtain ⟨zlz, zxz, zyz, zzz⟩ := id vz_7
  obtain ⟨zla, zxa, zya, zza⟩ := id va_7
  obtain ⟨zlb, zxb, zyb, zzb⟩ := id vb_7
  obtain ⟨zlc, zxc, zyc, zzc⟩ := id vc_7
  go_wp2_with fail
  refine (compare2_got _ _ _ _ _ _ _).mono ?_
  rintro e w8 ⟨cj, ej, gj, rfl, hb8⟩
  have Gj := Lib.hid gj; clear gj
  have vx_8 : VAt w8 (w.heap.size) kx nx tx := VAt.on (by first | exact vx_7 | exact vx_7.up _ | exact (vx_7.up _).up _ | exact ((vx_7.up _).up _).up _ | exact VAt.mk (by first | assumption | (simp <;> omega)) (by go_simp) (by go_simp) (by go_simp)) hb8; clear vx_7
  have vy_8 : VAt w8 (w.heap.size + 1) ky ny ty := VAt.on (by first | exact vy_7 | exact vy_7.up _ | exact (vy_7.up _).up _ | exact ((vy_7.up _).up _).up _ | exact VAt.mk (by first | assumption | (simp <;> omega)) (by go_simp) (by go_simp) (by go_simp)) hb8; clear vy_7
  have vz_8 : VAt w8 (w.heap.size + 1 + 1) kz nz tz := VAt.on (by first | exact vz_7 | exact vz_7.up _ | exact (vz_7.up _).up _ | exact ((vz_7.up _).up _).up _ | exact VAt.mk (by first | assumption | (simp <;> omega)) (by go_simp) (by go_simp) (by go_simp)) hb8; clear vz_7
  have va_8 : VAt w8 (w1.heap.size) ka na ta := VAt.on (by first | exact va_7 | exact va_7.up _ | exact (va_7.up _).up _ | exact ((va_7.up _).up _).up _ | exact VAt.mk (by first | assumption | (simp <;> omega)) (by go_simp) (by go_simp) (by go_simp)) hb8; clear va_7
  have vb_8 : VAt w8 (w2.heap.size) kb nb tb := VAt.on (by first | exact vb_7 | exact vb_7.up _ | exact (vb_7.up _).up _ | exact ((vb_7.up _).up _).up _ | exact VAt.mk (by first | assumption | (simp <;> omega)) (by go_simp) (by go_simp) (by go_simp)) hb8; clear vb_7
  have vc_8 : VAt w8 (w3.heap.size) kc nc tc := VAt.on (by first | exact vc_7 | exact vc_7.up _ | exact (vc_7.up _).up _ | exact ((vc_7.up _).up _).up _ | exact VAt.mk (by first | assumption | (simp <;> omega)) (by go_simp) (by go_simp) (by go_simp)) hb8; clear vc_7
  clear zlx zxx zyx zzx zly zxy zyy zzy zlz zxz zyz zzz zla zxa zya zza zlb zxb zyb zzb zlc zxc zyc zzc
  obtain ⟨zlx, zxx, zyx, zzx⟩ := id vx_8
  obtain ⟨zly, zxy, zyy, zzy⟩ := id vy_8
  obtain ⟨zlz, zxz, zyz, zzz⟩ := id vz_8
  obtain ⟨zla, zxa, zya, zza⟩ := id va_8
  obtain ⟨zlb, zxb, zyb, zzb⟩ := id vb_8
  obtain ⟨zlc, zxc, zyc, zzc⟩ := id vc_8
  obtain ⟨f0, f1, f2, f3, f4, f5, f6, f7, f8, f9⟩ := plainValueOrder Ga.out Gb.out Gc.out Gf.out Gg.out Gh.out Gi.out Gj.out
  obtain ⟨b0, b1, b2, b3, b4, b5⟩ := f6
  rcases f9 with h | ⟨h, h2⟩ | ⟨h, h2, h3, h4⟩
  rotate_left 2
  rcases h4 with ⟨h4, h5⟩ | ⟨h4, h5, h6⟩ | ⟨h4, h5, h6⟩
  all_goals
    go_wp2_with fail
    go_ret
    refine ⟨?_, ?_⟩
    · first
        | exact rfl
        | (show Ending.returned (.bool _) = _; refine congrArg (fun b => Ending.returned (.bool b)) ?_; by_cases c1 : cf < 0 <;> by_cases c2 : ch < 0 <;> by_cases c3 : ci < 0 <;> by_cases c4 : 0 < cf <;> by_cases c5 : 0 < ch <;> simp [c1, c2, c3, c4, c5] <;> omega)
    repeat (first | exact Below.refl _ _ | refine ext_via ?_ (by assumption) | refine ext_al ?_ _ | refine ext_dr ?_ | refine ext_drN _ ?_ | refine ext_set ?_ (by first | omega | (simp <;> omega)) _)

end Go.Proofs.Ytiaeeahoipakcaa.Vl
