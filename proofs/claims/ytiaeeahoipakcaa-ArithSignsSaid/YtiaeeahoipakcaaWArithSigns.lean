/-
  The walk of the law ArithSigns.
-/
import Derived.Test.YtiaeeahoipakcaaVord
namespace Go.Proofs.Ytiaeeahoipakcaa.Vl
open Go.RowKit Kit
set_option linter.unusedVariables false
set_option linter.unusedSimpArgs false

theorem two_fit' (kind a b r : Int) (hk : kind = 8 ∨ kind = 9 ∨ kind = 10) (hr : arithF kind a b = r) (h0 : -9223372036854775808 ≤ r) (h1 : r ≤ 9223372036854775807) :
    twoR kind ⟨2, a, ⟨#[]⟩⟩ ⟨2, b, ⟨#[]⟩⟩ = (⟨2, r, ⟨#[]⟩⟩, 0) := by
  have f : fits r = true := by simp [fits, h0, h1]
  rw [two_num kind a b hk, hr, if_pos f, wrap_fits f]

set_option maxHeartbeats 4000000 in
theorem plainArithSigns {a : Int} (a0 : -9223372036854775808 ≤ a) (a1 : a ≤ 9223372036854775807) {b : Int} {kd nd kf nf ks ns kz nz ko no kq nq : Int} {td tf ts tz to tq : ByteArray} {ed : Int} {ef : Int} {es : Int} {ez : Int} {eo : Int} {eq : Int}
    (gd : twoR 9 ⟨2, (picked a 1099511627776), ⟨#[]⟩⟩ ⟨2, (picked b 1099511627776), ⟨#[]⟩⟩ = (⟨kd, nd, td⟩, ed))
    (gf : twoR 9 ⟨2, (picked b 1099511627776), ⟨#[]⟩⟩ ⟨2, (picked a 1099511627776), ⟨#[]⟩⟩ = (⟨kf, nf, tf⟩, ef))
    (gs : twoR 8 ⟨kd, nd, td⟩ ⟨kf, nf, tf⟩ = (⟨ks, ns, ts⟩, es))
    (gz : twoR 10 ⟨2, a, ⟨#[]⟩⟩ ⟨2, 0, ⟨#[]⟩⟩ = (⟨kz, nz, tz⟩, ez))
    (go : twoR 10 ⟨2, a, ⟨#[]⟩⟩ ⟨2, 1, ⟨#[]⟩⟩ = (⟨ko, no, to⟩, eo))
    (gq : twoR 8 ⟨2, a, ⟨#[]⟩⟩ ⟨2, 0, ⟨#[]⟩⟩ = (⟨kq, nq, tq⟩, eq))
    : (ed == 0) = true ∧ (ef == 0) = true ∧ (es == 0) = true ∧ (ez == 0) = true ∧ (eo == 0) = true ∧ (eq == 0) = true ∧ veqB ks ns ts 2 0 ⟨#[]⟩ = true ∧ veqB kz nz tz 2 0 ⟨#[]⟩ = true ∧ veqB ko no to 2 a ⟨#[]⟩ = true ∧ veqB kq nq tq 2 a ⟨#[]⟩ = true := by
  have pa := picked_bd a 1099511627776 (by omega)
  have pb := picked_bd b 1099511627776 (by omega)
  generalize picked a 1099511627776 = x at *
  generalize picked b 1099511627776 = y at *
  rw [two_fit' 9 x y (x - y) (by omega) (by simp [arithF]) (by omega) (by omega)] at gd
  obtain ⟨h, rfl⟩ := Prod.mk.inj gd
  obtain ⟨rfl, rfl, rfl⟩ := V.mk.inj h
  rw [two_fit' 9 y x (y - x) (by omega) (by simp [arithF]) (by omega) (by omega)] at gf
  obtain ⟨h, rfl⟩ := Prod.mk.inj gf
  obtain ⟨rfl, rfl, rfl⟩ := V.mk.inj h
  rw [two_fit' 8 (x - y) (y - x) 0 (by omega) (by simp [arithF]; omega) (by omega) (by omega)] at gs
  obtain ⟨h, rfl⟩ := Prod.mk.inj gs
  obtain ⟨rfl, rfl, rfl⟩ := V.mk.inj h
  rw [two_fit' 10 a 0 0 (by omega) (by simp [arithF]) (by omega) (by omega)] at gz
  obtain ⟨h, rfl⟩ := Prod.mk.inj gz
  obtain ⟨rfl, rfl, rfl⟩ := V.mk.inj h
  rw [two_fit' 10 a 1 a (by omega) (by simp [arithF]) (by omega) (by omega)] at go
  obtain ⟨h, rfl⟩ := Prod.mk.inj go
  obtain ⟨rfl, rfl, rfl⟩ := V.mk.inj h
  rw [two_fit' 8 a 0 a (by omega) (by simp [arithF]) (by omega) (by omega)] at gq
  obtain ⟨h, rfl⟩ := Prod.mk.inj gq
  obtain ⟨rfl, rfl, rfl⟩ := V.mk.inj h
  simp [veq_refl]

set_option maxHeartbeats 1000000 in
theorem walkArithSigns (a : Int) (wa : (Lit.int .i64 a).wf = true) (b : Int) (wb : (Lit.int .i64 b).wf = true) (w : World) :
    Calls Try.prog 8 #[.int .i64 a, .int .i64 b] w fun e w' => e = .returned (.bool true) ∧ Below w.heap.size w w' := by
  obtain ⟨a0, a1⟩ := wf_bd wa
  clear wa
  obtain ⟨b0, b1⟩ := wf_bd wb
  clear wb
  have pa := picked_bd a 1099511627776 (by omega)
  have pb := picked_bd b 1099511627776 (by omega)
  go_enter Try.func8, Try.ntmps8
  go_wp2_with fail
  refine (picked_any _ _ _ (by omega) (by omega) (by omega) (by omega)).mono ?_
  rintro e w' ⟨rfl, rfl⟩
  go_wp2_with fail
  refine (picked_any _ _ _ (by omega) (by omega) (by omega) (by omega)).mono ?_
  rintro e w' ⟨rfl, rfl⟩
  go_wp2_with fail
  refine (number_any _ _).mono ?_
  rintro e w1 ⟨rfl, hb1⟩
  go_wp2_with fail
  refine (number_any _ _).mono ?_
  rintro e w2 ⟨rfl, hb2⟩
  go_wp2_with fail
  refine (two_any 9 _ _ _ _ _ _ _ (.inr ⟨⟨by omega, by omega⟩, by omega, by omega⟩)).mono ?_
  rintro e w3 ⟨kd, nd, td, ed, gd, rfl, hb3⟩
  have Gd := Lib.hid gd; clear gd
  obtain ⟨bd0, bd1⟩ := twoR_bd2 Gd.out (by omega) (by omega) (by omega) (by omega)
  go_wp2_with fail
  refine (number_any _ _).mono ?_
  rintro e w4 ⟨rfl, hb4⟩
  have vd_4 : VAt w4 (w3.heap.size) kd nd td := VAt.on (by first | exact VAt.newAt _ _ _ _ _ (by simp) | exact (VAt.newAt _ _ _ _ _ (by simp)).up _ | exact ((VAt.newAt _ _ _ _ _ (by simp)).up _).up _ | exact VAt.mk (by first | assumption | (simp <;> omega)) (by go_simp) (by go_simp) (by go_simp)) hb4
  obtain ⟨zld, zxd, zyd, zzd⟩ := id vd_4
  go_wp2_with fail
  refine (number_any _ _).mono ?_
  rintro e w5 ⟨rfl, hb5⟩
  have vd_5 : VAt w5 (w3.heap.size) kd nd td := VAt.on (by first | exact vd_4 | exact vd_4.up _ | exact (vd_4.up _).up _ | exact ((vd_4.up _).up _).up _ | exact VAt.mk (by first | assumption | (simp <;> omega)) (by go_simp) (by go_simp) (by go_simp)) hb5; clear vd_4
  clear zld zxd zyd zzd
  obtain ⟨zld, zxd, zyd, zzd⟩ := id vd_5
  go_wp2_with fail
  refine (two_any 9 _ _ _ _ _ _ _ (.inr ⟨⟨by omega, by omega⟩, by omega, by omega⟩)).mono ?_
  rintro e w6 ⟨kf, nf, tf, ef, gf, rfl, hb6⟩
  have Gf := Lib.hid gf; clear gf
  have vd_6 : VAt w6 (w3.heap.size) kd nd td := VAt.on (by first | exact vd_5 | exact vd_5.up _ | exact (vd_5.up _).up _ | exact ((vd_5.up _).up _).up _ | exact VAt.mk (by first | assumption | (simp <;> omega)) (by go_simp) (by go_simp) (by go_simp)) hb6; clear vd_5
  clear zld zxd zyd zzd
  obtain ⟨zld, zxd, zyd, zzd⟩ := id vd_6
  obtain ⟨bf0, bf1⟩ := twoR_bd2 Gf.out (by omega) (by omega) (by omega) (by omega)
  go_wp2_with fail
  refine (two_any 8 _ _ _ _ _ _ _ (.inr ⟨⟨by omega, by omega⟩, by omega, by omega⟩)).mono ?_
  rintro e w7 ⟨ks, ns, ts, es, gs, rfl, hb7⟩
  have Gs := Lib.hid gs; clear gs
  have vd_7 : VAt w7 (w3.heap.size) kd nd td := VAt.on (by first | exact vd_6 | exact vd_6.up _ | exact (vd_6.up _).up _ | exact ((vd_6.up _).up _).up _ | exact VAt.mk (by first | assumption | (simp <;> omega)) (by go_simp) (by go_simp) (by go_simp)) hb7; clear vd_6
  have vf_7 : VAt w7 (w6.heap.size) kf nf tf := VAt.on (by first | exact VAt.newAt _ _ _ _ _ (by simp) | exact (VAt.newAt _ _ _ _ _ (by simp)).up _ | exact ((VAt.newAt _ _ _ _ _ (by simp)).up _).up _ | exact VAt.mk (by first | assumption | (simp <;> omega)) (by go_simp) (by go_simp) (by go_simp)) hb7
  clear zld zxd zyd zzd
  obtain ⟨zld, zxd, zyd, zzd⟩ := id vd_7
  obtain ⟨zlf, zxf, zyf, zzf⟩ := id vf_7
  obtain ⟨bs0, bs1⟩ := twoR_bd2 Gs.out (by omega) (by omega) (by omega) (by omega)
  go_wp2_with fail
  refine (number_any _ _).mono ?_
  rintro e w8 ⟨rfl, hb8⟩
  have vd_8 : VAt w8 (w3.heap.size) kd nd td := VAt.on (by first | exact vd_7 | exact vd_7.up _ | exact (vd_7.up _).up _ | exact ((vd_7.up _).up _).up _ | exact VAt.mk (by first | assumption | (simp <;> omega)) (by go_simp) (by go_simp) (by go_simp)) hb8; clear vd_7
  have vf_8 : VAt w8 (w6.heap.size) kf nf tf := VAt.on (by first | exact vf_7 | exact vf_7.up _ | exact (vf_7.up _).up _ | exact ((vf_7.up _).up _).up _ | exact VAt.mk (by first | assumption | (simp <;> omega)) (by go_simp) (by go_simp) (by go_simp)) hb8; clear vf_7
  have vs_8 : VAt w8 (w7.heap.size) ks ns ts := VAt.on (by first | exact VAt.newAt _ _ _ _ _ (by simp) | exact (VAt.newAt _ _ _ _ _ (by simp)).up _ | exact ((VAt.newAt _ _ _ _ _ (by simp)).up _).up _ | exact VAt.mk (by first | assumption | (simp <;> omega)) (by go_simp) (by go_simp) (by go_simp)) hb8
  clear zld zxd zyd zzd zlf zxf zyf zzf
  obtain ⟨zld, zxd, zyd, zzd⟩ := id vd_8
  obtain ⟨zlf, zxf, zyf, zzf⟩ := id vf_8
  obtain ⟨zls, zxs, zys, zzs⟩ := id vs_8
  go_wp2_with fail
  refine (number_any _ _).mono ?_
  rintro e w9 ⟨rfl, hb9⟩
  have vd_9 : VAt w9 (w3.heap.size) kd nd td := VAt.on (by first | exact vd_8 | exact vd_8.up _ | exact (vd_8.up _).up _ | exact ((vd_8.up _).up _).up _ | exact VAt.mk (by first | assumption | (simp <;> omega)) (by go_simp) (by go_simp) (by go_simp)) hb9; clear vd_8
  have vf_9 : VAt w9 (w6.heap.size) kf nf tf := VAt.on (by first | exact vf_8 | exact vf_8.up _ | exact (vf_8.up _).up _ | exact ((vf_8.up _).up _).up _ | exact VAt.mk (by first | assumption | (simp <;> omega)) (by go_simp) (by go_simp) (by go_simp)) hb9; clear vf_8
  have vs_9 : VAt w9 (w7.heap.size) ks ns ts := VAt.on (by first | exact vs_8 | exact vs_8.up _ | exact (vs_8.up _).up _ | exact ((vs_8.up _).up _).up _ | exact VAt.mk (by first | assumption | (simp <;> omega)) (by go_simp) (by go_simp) (by go_simp)) hb9; clear vs_8
  clear zld zxd zyd zzd zlf zxf zyf zzf zls zxs zys zzs
  obtain ⟨zld, zxd, zyd, zzd⟩ := id vd_9
  obtain ⟨zlf, zxf, zyf, zzf⟩ := id vf_9
  obtain ⟨zls, zxs, zys, zzs⟩ := id vs_9
  go_wp2_with fail
  refine (two_any 10 _ _ _ _ _ _ _ (.inr ⟨⟨by omega, by omega⟩, by omega, by omega⟩)).mono ?_
  rintro e w10 ⟨kz, nz, tz, ez, gz, rfl, hb10⟩
  have Gz := Lib.hid gz; clear gz
  have vd_10 : VAt w10 (w3.heap.size) kd nd td := VAt.on (by first | exact vd_9 | exact vd_9.up _ | exact (vd_9.up _).up _ | exact ((vd_9.up _).up _).up _ | exact VAt.mk (by first | assumption | (simp <;> omega)) (by go_simp) (by go_simp) (by go_simp)) hb10; clear vd_9
  have vf_10 : VAt w10 (w6.heap.size) kf nf tf := VAt.on (by first | exact vf_9 | exact vf_9.up _ | exact (vf_9.up _).up _ | exact ((vf_9.up _).up _).up _ | exact VAt.mk (by first | assumption | (simp <;> omega)) (by go_simp) (by go_simp) (by go_simp)) hb10; clear vf_9
  have vs_10 : VAt w10 (w7.heap.size) ks ns ts := VAt.on (by first | exact vs_9 | exact vs_9.up _ | exact (vs_9.up _).up _ | exact ((vs_9.up _).up _).up _ | exact VAt.mk (by first | assumption | (simp <;> omega)) (by go_simp) (by go_simp) (by go_simp)) hb10; clear vs_9
  clear zld zxd zyd zzd zlf zxf zyf zzf zls zxs zys zzs
  obtain ⟨zld, zxd, zyd, zzd⟩ := id vd_10
  obtain ⟨zlf, zxf, zyf, zzf⟩ := id vf_10
  obtain ⟨zls, zxs, zys, zzs⟩ := id vs_10
  obtain ⟨bz0, bz1⟩ := twoR_bd2 Gz.out (by omega) (by omega) (by omega) (by omega)
  go_wp2_with fail
  refine (number_any _ _).mono ?_
  rintro e w11 ⟨rfl, hb11⟩
  have vd_11 : VAt w11 (w3.heap.size) kd nd td := VAt.on (by first | exact vd_10 | exact vd_10.up _ | exact (vd_10.up _).up _ | exact ((vd_10.up _).up _).up _ | exact VAt.mk (by first | assumption | (simp <;> omega)) (by go_simp) (by go_simp) (by go_simp)) hb11; clear vd_10
  have vf_11 : VAt w11 (w6.heap.size) kf nf tf := VAt.on (by first | exact vf_10 | exact vf_10.up _ | exact (vf_10.up _).up _ | exact ((vf_10.up _).up _).up _ | exact VAt.mk (by first | assumption | (simp <;> omega)) (by go_simp) (by go_simp) (by go_simp)) hb11; clear vf_10
  have vs_11 : VAt w11 (w7.heap.size) ks ns ts := VAt.on (by first | exact vs_10 | exact vs_10.up _ | exact (vs_10.up _).up _ | exact ((vs_10.up _).up _).up _ | exact VAt.mk (by first | assumption | (simp <;> omega)) (by go_simp) (by go_simp) (by go_simp)) hb11; clear vs_10
  have vz_11 : VAt w11 (w10.heap.size) kz nz tz := VAt.on (by first | exact VAt.newAt _ _ _ _ _ (by simp) | exact (VAt.newAt _ _ _ _ _ (by simp)).up _ | exact ((VAt.newAt _ _ _ _ _ (by simp)).up _).up _ | exact VAt.mk (by first | assumption | (simp <;> omega)) (by go_simp) (by go_simp) (by go_simp)) hb11
  clear zld zxd zyd zzd zlf zxf zyf zzf zls zxs zys zzs
  obtain ⟨zld, zxd, zyd, zzd⟩ := id vd_11
  obtain ⟨zlf, zxf, zyf, zzf⟩ := id vf_11
  obtain ⟨zls, zxs, zys, zzs⟩ := id vs_11
  obtain ⟨zlz, zxz, zyz, zzz⟩ := id vz_11
  go_wp2_with fail
  refine (number_any _ _).mono ?_
  rintro e w12 ⟨rfl, hb12⟩
  have vd_12 : VAt w12 (w3.heap.size) kd nd td := VAt.on (by first | exact vd_11 | exact vd_11.up _ | exact (vd_11.up _).up _ | exact ((vd_11.up _).up _).up _ | exact VAt.mk (by first | assumption | (simp <;> omega)) (by go_simp) (by go_simp) (by go_simp)) hb12; clear vd_11
  have vf_12 : VAt w12 (w6.heap.size) kf nf tf := VAt.on (by first | exact vf_11 | exact vf_11.up _ | exact (vf_11.up _).up _ | exact ((vf_11.up _).up _).up _ | exact VAt.mk (by first | assumption | (simp <;> omega)) (by go_simp) (by go_simp) (by go_simp)) hb12; clear vf_11
  have vs_12 : VAt w12 (w7.heap.size) ks ns ts := VAt.on (by first | exact vs_11 | exact vs_11.up _ | exact (vs_11.up _).up _ | exact ((vs_11.up _).up _).up _ | exact VAt.mk (by first | assumption | (simp <;> omega)) (by go_simp) (by go_simp) (by go_simp)) hb12; clear vs_11
  have vz_12 : VAt w12 (w10.heap.size) kz nz tz := VAt.on (by first | exact vz_11 | exact vz_11.up _ | exact (vz_11.up _).up _ | exact ((vz_11.up _).up _).up _ | exact VAt.mk (by first | assumption | (simp <;> omega)) (by go_simp) (by go_simp) (by go_simp)) hb12; clear vz_11
  clear zld zxd zyd zzd zlf zxf zyf zzf zls zxs zys zzs zlz zxz zyz zzz
  obtain ⟨zld, zxd, zyd, zzd⟩ := id vd_12
  obtain ⟨zlf, zxf, zyf, zzf⟩ := id vf_12
  obtain ⟨zls, zxs, zys, zzs⟩ := id vs_12
  obtain ⟨zlz, zxz, zyz, zzz⟩ := id vz_12
  go_wp2_with fail
  refine (two_any 10 _ _ _ _ _ _ _ (.inr ⟨⟨by omega, by omega⟩, by omega, by omega⟩)).mono ?_
  rintro e w13 ⟨ko, no, to, eo, go, rfl, hb13⟩
  have Go := Lib.hid go; clear go
  have vd_13 : VAt w13 (w3.heap.size) kd nd td := VAt.on (by first | exact vd_12 | exact vd_12.up _ | exact (vd_12.up _).up _ | exact ((vd_12.up _).up _).up _ | exact VAt.mk (by first | assumption | (simp <;> omega)) (by go_simp) (by go_simp) (by go_simp)) hb13; clear vd_12
  have vf_13 : VAt w13 (w6.heap.size) kf nf tf := VAt.on (by first | exact vf_12 | exact vf_12.up _ | exact (vf_12.up _).up _ | exact ((vf_12.up _).up _).up _ | exact VAt.mk (by first | assumption | (simp <;> omega)) (by go_simp) (by go_simp) (by go_simp)) hb13; clear vf_12
  have vs_13 : VAt w13 (w7.heap.size) ks ns ts := VAt.on (by first | exact vs_12 | exact vs_12.up _ | exact (vs_12.up _).up _ | exact ((vs_12.up _).up _).up _ | exact VAt.mk (by first | assumption | (simp <;> omega)) (by go_simp) (by go_simp) (by go_simp)) hb13; clear vs_12
  have vz_13 : VAt w13 (w10.heap.size) kz nz tz := VAt.on (by first | exact vz_12 | exact vz_12.up _ | exact (vz_12.up _).up _ | exact ((vz_12.up _).up _).up _ | exact VAt.mk (by first | assumption | (simp <;> omega)) (by go_simp) (by go_simp) (by go_simp)) hb13; clear vz_12
  clear zld zxd zyd zzd zlf zxf zyf zzf zls zxs zys zzs zlz zxz zyz zzz
  obtain ⟨zld, zxd, zyd, zzd⟩ := id vd_13
  obtain ⟨zlf, zxf, zyf, zzf⟩ := id vf_13
  obtain ⟨zls, zxs, zys, zzs⟩ := id vs_13
  obtain ⟨zlz, zxz, zyz, zzz⟩ := id vz_13
  obtain ⟨bo0, bo1⟩ := twoR_bd2 Go.out (by omega) (by omega) (by omega) (by omega)
  go_wp2_with fail
  refine (number_any _ _).mono ?_
  rintro e w14 ⟨rfl, hb14⟩
  have vd_14 : VAt w14 (w3.heap.size) kd nd td := VAt.on (by first | exact vd_13 | exact vd_13.up _ | exact (vd_13.up _).up _ | exact ((vd_13.up _).up _).up _ | exact VAt.mk (by first | assumption | (simp <;> omega)) (by go_simp) (by go_simp) (by go_simp)) hb14; clear vd_13
  have vf_14 : VAt w14 (w6.heap.size) kf nf tf := VAt.on (by first | exact vf_13 | exact vf_13.up _ | exact (vf_13.up _).up _ | exact ((vf_13.up _).up _).up _ | exact VAt.mk (by first | assumption | (simp <;> omega)) (by go_simp) (by go_simp) (by go_simp)) hb14; clear vf_13
  have vs_14 : VAt w14 (w7.heap.size) ks ns ts := VAt.on (by first | exact vs_13 | exact vs_13.up _ | exact (vs_13.up _).up _ | exact ((vs_13.up _).up _).up _ | exact VAt.mk (by first | assumption | (simp <;> omega)) (by go_simp) (by go_simp) (by go_simp)) hb14; clear vs_13
  have vz_14 : VAt w14 (w10.heap.size) kz nz tz := VAt.on (by first | exact vz_13 | exact vz_13.up _ | exact (vz_13.up _).up _ | exact ((vz_13.up _).up _).up _ | exact VAt.mk (by first | assumption | (simp <;> omega)) (by go_simp) (by go_simp) (by go_simp)) hb14; clear vz_13
  have vo_14 : VAt w14 (w13.heap.size) ko no to := VAt.on (by first | exact VAt.newAt _ _ _ _ _ (by simp) | exact (VAt.newAt _ _ _ _ _ (by simp)).up _ | exact ((VAt.newAt _ _ _ _ _ (by simp)).up _).up _ | exact VAt.mk (by first | assumption | (simp <;> omega)) (by go_simp) (by go_simp) (by go_simp)) hb14
  clear zld zxd zyd zzd zlf zxf zyf zzf zls zxs zys zzs zlz zxz zyz zzz
  obtain ⟨zld, zxd, zyd, zzd⟩ := id vd_14
  obtain ⟨zlf, zxf, zyf, zzf⟩ := id vf_14
  obtain ⟨zls, zxs, zys, zzs⟩ := id vs_14
  obtain ⟨zlz, zxz, zyz, zzz⟩ := id vz_14
  obtain ⟨zlo, zxo, zyo, zzo⟩ := id vo_14
  go_wp2_with fail
  refine (number_any _ _).mono ?_
  rintro e w15 ⟨rfl, hb15⟩
  have vd_15 : VAt w15 (w3.heap.size) kd nd td := VAt.on (by first | exact vd_14 | exact vd_14.up _ | exact (vd_14.up _).up _ | exact ((vd_14.up _).up _).up _ | exact VAt.mk (by first | assumption | (simp <;> omega)) (by go_simp) (by go_simp) (by go_simp)) hb15; clear vd_14
  have vf_15 : VAt w15 (w6.heap.size) kf nf tf := VAt.on (by first | exact vf_14 | exact vf_14.up _ | exact (vf_14.up _).up _ | exact ((vf_14.up _).up _).up _ | exact VAt.mk (by first | assumption | (simp <;> omega)) (by go_simp) (by go_simp) (by go_simp)) hb15; clear vf_14
  have vs_15 : VAt w15 (w7.heap.size) ks ns ts := VAt.on (by first | exact vs_14 | exact vs_14.up _ | exact (vs_14.up _).up _ | exact ((vs_14.up _).up _).up _ | exact VAt.mk (by first | assumption | (simp <;> omega)) (by go_simp) (by go_simp) (by go_simp)) hb15; clear vs_14
  have vz_15 : VAt w15 (w10.heap.size) kz nz tz := VAt.on (by first | exact vz_14 | exact vz_14.up _ | exact (vz_14.up _).up _ | exact ((vz_14.up _).up _).up _ | exact VAt.mk (by first | assumption | (simp <;> omega)) (by go_simp) (by go_simp) (by go_simp)) hb15; clear vz_14
  have vo_15 : VAt w15 (w13.heap.size) ko no to := VAt.on (by first | exact vo_14 | exact vo_14.up _ | exact (vo_14.up _).up _ | exact ((vo_14.up _).up _).up _ | exact VAt.mk (by first | assumption | (simp <;> omega)) (by go_simp) (by go_simp) (by go_simp)) hb15; clear vo_14
  clear zld zxd zyd zzd zlf zxf zyf zzf zls zxs zys zzs zlz zxz zyz zzz zlo zxo zyo zzo
  obtain ⟨zld, zxd, zyd, zzd⟩ := id vd_15
  obtain ⟨zlf, zxf, zyf, zzf⟩ := id vf_15
  obtain ⟨zls, zxs, zys, zzs⟩ := id vs_15
  obtain ⟨zlz, zxz, zyz, zzz⟩ := id vz_15
  obtain ⟨zlo, zxo, zyo, zzo⟩ := id vo_15
  go_wp2_with fail
  refine (two_any 8 _ _ _ _ _ _ _ (.inr ⟨⟨by omega, by omega⟩, by omega, by omega⟩)).mono ?_
  rintro e w16 ⟨kq, nq, tq, eq, gq, rfl, hb16⟩
  have Gq := Lib.hid gq; clear gq
  have vd_16 : VAt w16 (w3.heap.size) kd nd td := VAt.on (by first | exact vd_15 | exact vd_15.up _ | exact (vd_15.up _).up _ | exact ((vd_15.up _).up _).up _ | exact VAt.mk (by first | assumption | (simp <;> omega)) (by go_simp) (by go_simp) (by go_simp)) hb16; clear vd_15
  have vf_16 : VAt w16 (w6.heap.size) kf nf tf := VAt.on (by first | exact vf_15 | exact vf_15.up _ | exact (vf_15.up _).up _ | exact ((vf_15.up _).up _).up _ | exact VAt.mk (by first | assumption | (simp <;> omega)) (by go_simp) (by go_simp) (by go_simp)) hb16; clear vf_15
  have vs_16 : VAt w16 (w7.heap.size) ks ns ts := VAt.on (by first | exact vs_15 | exact vs_15.up _ | exact (vs_15.up _).up _ | exact ((vs_15.up _).up _).up _ | exact VAt.mk (by first | assumption | (simp <;> omega)) (by go_simp) (by go_simp) (by go_simp)) hb16; clear vs_15
  have vz_16 : VAt w16 (w10.heap.size) kz nz tz := VAt.on (by first | exact vz_15 | exact vz_15.up _ | exact (vz_15.up _).up _ | exact ((vz_15.up _).up _).up _ | exact VAt.mk (by first | assumption | (simp <;> omega)) (by go_simp) (by go_simp) (by go_simp)) hb16; clear vz_15
  have vo_16 : VAt w16 (w13.heap.size) ko no to := VAt.on (by first | exact vo_15 | exact vo_15.up _ | exact (vo_15.up _).up _ | exact ((vo_15.up _).up _).up _ | exact VAt.mk (by first | assumption | (simp <;> omega)) (by go_simp) (by go_simp) (by go_simp)) hb16; clear vo_15
  clear zld zxd zyd zzd zlf zxf zyf zzf zls zxs zys zzs zlz zxz zyz zzz zlo zxo zyo zzo
  obtain ⟨zld, zxd, zyd, zzd⟩ := id vd_16
  obtain ⟨zlf, zxf, zyf, zzf⟩ := id vf_16
  obtain ⟨zls, zxs, zys, zzs⟩ := id vs_16
  obtain ⟨zlz, zxz, zyz, zzz⟩ := id vz_16
  obtain ⟨zlo, zxo, zyo, zzo⟩ := id vo_16
  obtain ⟨bq0, bq1⟩ := twoR_bd2 Gq.out (by omega) (by omega) (by omega) (by omega)
  go_wp2_with fail
  clear zld zxd zyd zzd zlf zxf zyf zzf zls zxs zys zzs zlz zxz zyz zzz zlo zxo zyo zzo
  have hbW : Below w16.heap.size w16 (w16.alloc (.cells #[.int .i64 kq, .int .i64 nq, .string tq] 24)) := ext_al (Below.refl _ _) _
  have vd_W : VAt (w16.alloc (.cells #[.int .i64 kq, .int .i64 nq, .string tq] 24)) (w3.heap.size) kd nd td := vd_16.up _; clear vd_16
  have vf_W : VAt (w16.alloc (.cells #[.int .i64 kq, .int .i64 nq, .string tq] 24)) (w6.heap.size) kf nf tf := vf_16.up _; clear vf_16
  have vs_W : VAt (w16.alloc (.cells #[.int .i64 kq, .int .i64 nq, .string tq] 24)) (w7.heap.size) ks ns ts := vs_16.up _; clear vs_16
  have vz_W : VAt (w16.alloc (.cells #[.int .i64 kq, .int .i64 nq, .string tq] 24)) (w10.heap.size) kz nz tz := vz_16.up _; clear vz_16
  have vo_W : VAt (w16.alloc (.cells #[.int .i64 kq, .int .i64 nq, .string tq] 24)) (w13.heap.size) ko no to := vo_16.up _; clear vo_16
  have vq_W : VAt (w16.alloc (.cells #[.int .i64 kq, .int .i64 nq, .string tq] 24)) (w16.heap.size) kq nq tq := VAt.newAt _ _ _ _ _ (by simp)
  generalize (w16.alloc (.cells #[.int .i64 kq, .int .i64 nq, .string tq] 24)) = W at *
  obtain ⟨zld, zxd, zyd, zzd⟩ := id vd_W
  obtain ⟨zlf, zxf, zyf, zzf⟩ := id vf_W
  obtain ⟨zls, zxs, zys, zzs⟩ := id vs_W
  obtain ⟨zlz, zxz, zyz, zzz⟩ := id vz_W
  obtain ⟨zlo, zxo, zyo, zzo⟩ := id vo_W
  obtain ⟨zlq, zxq, zyq, zzq⟩ := id vq_W
  obtain ⟨f0, f1, f2, f3, f4, f5, f6, f7, f8, f9⟩ := plainArithSigns a0 a1 Gd.out Gf.out Gs.out Gz.out Go.out Gq.out
  refine region_grow (by kernel_rfl) (by kernel_rfl) ?_
  intro hX
  repeat (quiet_step ((exact grow_call _ (number_any _ _))))
  refine wpQuiet_nil ?_
  rintro _ ⟨x, rfl⟩
  have hx := x.ext
  go_wp2_with fail
  go_ret
  refine ⟨rfl, ?_⟩
  refine ext_via ?_ hx
  repeat (first | exact Below.refl _ _ | refine ext_via ?_ (by assumption) | refine ext_al ?_ _ | refine ext_dr ?_ | refine ext_drN _ ?_ | refine ext_set ?_ (by first | omega | (simp <;> omega)) _)

end Go.Proofs.Ytiaeeahoipakcaa.Vl
