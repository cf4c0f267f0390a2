/-
  The walk of the law ArithTimes.
-/
import Derived.Test.YtiaeeahoipakcaaVord
namespace Go.Proofs.Ytiaeeahoipakcaa.Vl
open Go.RowKit Kit
set_option linter.unusedVariables false
set_option linter.unusedSimpArgs false

theorem plainTimes1 {a b : Int} {kp np kq nq : Int} {tp tq : ByteArray} {ep eq : Int} (gp : twoR 10 ⟨2, a, ⟨#[]⟩⟩ ⟨2, b, ⟨#[]⟩⟩ = (⟨kp, np, tp⟩, ep)) (gq : twoR 10 ⟨2, b, ⟨#[]⟩⟩ ⟨2, a, ⟨#[]⟩⟩ = (⟨kq, nq, tq⟩, eq)) :
    (ep != eq) = false ∧ veqB kp np tp kq nq tq = true := by
  have e : twoR 10 ⟨2, b, ⟨#[]⟩⟩ ⟨2, a, ⟨#[]⟩⟩ = twoR 10 ⟨2, a, ⟨#[]⟩⟩ ⟨2, b, ⟨#[]⟩⟩ := by
    rw [two_num 10 b a (by omega), two_num 10 a b (by omega), show arithF 10 b a = arithF 10 a b from by simp [arithF, Int.mul_comm]]
  rw [e, gp] at gq
  obtain ⟨h, rfl⟩ := Prod.mk.inj gq
  obtain ⟨rfl, rfl, rfl⟩ := V.mk.inj h
  exact ⟨by simp, veq_refl _ _ _⟩

theorem two_fit (kind a b r : Int) (hk : kind = 8 ∨ kind = 9 ∨ kind = 10) (hr : arithF kind a b = r) (h0 : -9223372036854775808 ≤ r) (h1 : r ≤ 9223372036854775807) :
    twoR kind ⟨2, a, ⟨#[]⟩⟩ ⟨2, b, ⟨#[]⟩⟩ = (⟨2, r, ⟨#[]⟩⟩, 0) := by
  have f : fits r = true := by simp [fits, h0, h1]
  rw [two_num kind a b hk, hr, if_pos f, wrap_fits f]

set_option maxHeartbeats 4000000 in
theorem plainArithTimes {a : Int} {b : Int} {c : Int} {kp np kq nq ks ns ku nu kv nv kh nh kr nr kl nl : Int} {tp tq ts tu tv th tr tl : ByteArray} {ep : Int} {eq : Int} {es : Int} {eu : Int} {ev : Int} {eh : Int} {er : Int} {el : Int}
    (gp : twoR 10 ⟨2, a, ⟨#[]⟩⟩ ⟨2, b, ⟨#[]⟩⟩ = (⟨kp, np, tp⟩, ep))
    (gq : twoR 10 ⟨2, b, ⟨#[]⟩⟩ ⟨2, a, ⟨#[]⟩⟩ = (⟨kq, nq, tq⟩, eq))
    (gs : twoR 8 ⟨2, (picked b 1048576), ⟨#[]⟩⟩ ⟨2, (picked c 1048576), ⟨#[]⟩⟩ = (⟨ks, ns, ts⟩, es))
    (gu : twoR 10 ⟨2, (picked a 1048576), ⟨#[]⟩⟩ ⟨ks, ns, ts⟩ = (⟨ku, nu, tu⟩, eu))
    (gv : twoR 10 ⟨2, (picked a 1048576), ⟨#[]⟩⟩ ⟨2, (picked b 1048576), ⟨#[]⟩⟩ = (⟨kv, nv, tv⟩, ev))
    (gh : twoR 10 ⟨2, (picked a 1048576), ⟨#[]⟩⟩ ⟨2, (picked c 1048576), ⟨#[]⟩⟩ = (⟨kh, nh, th⟩, eh))
    (gr : twoR 8 ⟨kv, nv, tv⟩ ⟨kh, nh, th⟩ = (⟨kr, nr, tr⟩, er))
    (gl : twoR 10 ⟨2, 4611686018427387904, ⟨#[]⟩⟩ ⟨2, 2, ⟨#[]⟩⟩ = (⟨kl, nl, tl⟩, el))
    : (es == 0) = true ∧ (eu == 0) = true ∧ (ev == 0) = true ∧ (eh == 0) = true ∧ (er == 0) = true ∧ veqB ku nu tu kr nr tr = true ∧ (el == 5) = true ∧ veqB kl nl tl 0 0 ⟨#[]⟩ = true := by
  clear gp gq
  have pa := picked_bd a 1048576 (by omega)
  have pb := picked_bd b 1048576 (by omega)
  have pc := picked_bd c 1048576 (by omega)
  generalize picked a 1048576 = x at *
  generalize picked b 1048576 = y at *
  generalize picked c 1048576 = z at *
  have nxy : 0 ≤ x * y ∧ x * y ≤ 1048576 * 1048576 := ⟨Int.mul_nonneg pa.1 pb.1, Int.mul_le_mul (by omega) (by omega) (by omega) (by omega)⟩
  have nxz : 0 ≤ x * z ∧ x * z ≤ 1048576 * 1048576 := ⟨Int.mul_nonneg pa.1 pc.1, Int.mul_le_mul (by omega) (by omega) (by omega) (by omega)⟩
  have d : x * (y + z) = x * y + x * z := Int.mul_add _ _ _
  rw [two_fit 8 y z (y + z) (by omega) (by simp [arithF]) (by omega) (by omega)] at gs
  obtain ⟨h, rfl⟩ := Prod.mk.inj gs
  obtain ⟨rfl, rfl, rfl⟩ := V.mk.inj h
  rw [two_fit 10 x (y + z) (x * y + x * z) (by omega) (by simp [arithF, d]) (by omega) (by omega)] at gu
  obtain ⟨h, rfl⟩ := Prod.mk.inj gu
  obtain ⟨rfl, rfl, rfl⟩ := V.mk.inj h
  rw [two_fit 10 x y (x * y) (by omega) (by simp [arithF]) (by omega) (by omega)] at gv
  obtain ⟨h, rfl⟩ := Prod.mk.inj gv
  obtain ⟨rfl, rfl, rfl⟩ := V.mk.inj h
  rw [two_fit 10 x z (x * z) (by omega) (by simp [arithF]) (by omega) (by omega)] at gh
  obtain ⟨h, rfl⟩ := Prod.mk.inj gh
  obtain ⟨rfl, rfl, rfl⟩ := V.mk.inj h
  rw [two_fit 8 (x * y) (x * z) (x * y + x * z) (by omega) (by simp [arithF]) (by omega) (by omega)] at gr
  obtain ⟨h, rfl⟩ := Prod.mk.inj gr
  obtain ⟨rfl, rfl, rfl⟩ := V.mk.inj h
  rw [two_num 10 _ _ (by omega), if_neg (by decide)] at gl
  obtain ⟨h, rfl⟩ := Prod.mk.inj gl
  obtain ⟨rfl, rfl, rfl⟩ := V.mk.inj h
  simp [veq_refl]

set_option maxHeartbeats 1000000 in
theorem walkArithTimes (a : Int) (wa : (Lit.int .i64 a).wf = true) (b : Int) (wb : (Lit.int .i64 b).wf = true) (c : Int) (wc : (Lit.int .i64 c).wf = true) (w : World) :
    Calls Try.prog 5 #[.int .i64 a, .int .i64 b, .int .i64 c] w fun e w' => e = .returned (.bool true) ∧ Below w.heap.size w w' := by
  obtain ⟨a0, a1⟩ := wf_bd wa
  clear wa
  obtain ⟨b0, b1⟩ := wf_bd wb
  clear wb
  obtain ⟨c0, c1⟩ := wf_bd wc
  clear wc
  have pa := picked_bd a 1048576 (by omega)
  have pb := picked_bd b 1048576 (by omega)
  have pc := picked_bd c 1048576 (by omega)
  go_enter Try.func5, Try.ntmps5
  go_wp2_with fail
  refine (two_any 10 _ _ _ _ _ _ _ (.inr ⟨⟨by omega, by omega⟩, by omega, by omega⟩)).mono ?_
  rintro e w1 ⟨kp, np, tp, ep, gp, rfl, hb1⟩
  have Gp := Lib.hid gp; clear gp
  have vx_1 : VAt w1 (w.heap.size) 2 a ⟨#[]⟩ := VAt.on (by first | exact VAt.newAt _ _ _ _ _ (by simp) | exact (VAt.newAt _ _ _ _ _ (by simp)).up _ | exact ((VAt.newAt _ _ _ _ _ (by simp)).up _).up _ | exact VAt.mk (by first | assumption | (simp <;> omega)) (by go_simp) (by go_simp) (by go_simp)) hb1
  have vy_1 : VAt w1 (w.heap.size + 1) 2 b ⟨#[]⟩ := VAt.on (by first | exact VAt.newAt _ _ _ _ _ (by simp) | exact (VAt.newAt _ _ _ _ _ (by simp)).up _ | exact ((VAt.newAt _ _ _ _ _ (by simp)).up _).up _ | exact VAt.mk (by first | assumption | (simp <;> omega)) (by go_simp) (by go_simp) (by go_simp)) hb1
  obtain ⟨zlx, zxx, zyx, zzx⟩ := id vx_1
  obtain ⟨zly, zxy, zyy, zzy⟩ := id vy_1
  obtain ⟨bp0, bp1⟩ := twoR_bd2 Gp.out (by omega) (by omega) (by omega) (by omega)
  go_wp2_with fail
  refine (two_any 10 _ _ _ _ _ _ _ (.inr ⟨⟨by omega, by omega⟩, by omega, by omega⟩)).mono ?_
  rintro e w2 ⟨kq, nq, tq, eq, gq, rfl, hb2⟩
  have Gq := Lib.hid gq; clear gq
  have vx_2 : VAt w2 (w.heap.size) 2 a ⟨#[]⟩ := VAt.on (by first | exact vx_1 | exact vx_1.up _ | exact (vx_1.up _).up _ | exact ((vx_1.up _).up _).up _ | exact VAt.mk (by first | assumption | (simp <;> omega)) (by go_simp) (by go_simp) (by go_simp)) hb2; clear vx_1
  have vy_2 : VAt w2 (w.heap.size + 1) 2 b ⟨#[]⟩ := VAt.on (by first | exact vy_1 | exact vy_1.up _ | exact (vy_1.up _).up _ | exact ((vy_1.up _).up _).up _ | exact VAt.mk (by first | assumption | (simp <;> omega)) (by go_simp) (by go_simp) (by go_simp)) hb2; clear vy_1
  have vp_2 : VAt w2 (w1.heap.size) kp np tp := VAt.on (by first | exact VAt.newAt _ _ _ _ _ (by simp) | exact (VAt.newAt _ _ _ _ _ (by simp)).up _ | exact ((VAt.newAt _ _ _ _ _ (by simp)).up _).up _ | exact VAt.mk (by first | assumption | (simp <;> omega)) (by go_simp) (by go_simp) (by go_simp)) hb2
  clear zlx zxx zyx zzx zly zxy zyy zzy
  obtain ⟨zlx, zxx, zyx, zzx⟩ := id vx_2
  obtain ⟨zly, zxy, zyy, zzy⟩ := id vy_2
  obtain ⟨zlp, zxp, zyp, zzp⟩ := id vp_2
  obtain ⟨bq0, bq1⟩ := twoR_bd2 Gq.out (by omega) (by omega) (by omega) (by omega)
  have fpq := plainTimes1 Gp.out Gq.out
  obtain ⟨fp1, fp2⟩ := fpq
  go_wp2_with fail
  refine (picked_any _ _ _ (by omega) (by omega) (by omega) (by omega)).mono ?_
  rintro e w' ⟨rfl, rfl⟩
  go_wp2_with fail
  refine (picked_any _ _ _ (by omega) (by omega) (by omega) (by omega)).mono ?_
  rintro e w' ⟨rfl, rfl⟩
  go_wp2_with fail
  refine (picked_any _ _ _ (by omega) (by omega) (by omega) (by omega)).mono ?_
  rintro e w' ⟨rfl, rfl⟩
  go_wp2_with fail
  refine (two_any 8 _ _ _ _ _ _ _ (.inr ⟨⟨by omega, by omega⟩, by omega, by omega⟩)).mono ?_
  rintro e w3 ⟨ks, ns, ts, es, gs, rfl, hb3⟩
  have Gs := Lib.hid gs; clear gs
  have vm_3 : VAt w3 (w2.heap.size + 1) 2 (picked a 1048576) ⟨#[]⟩ := VAt.on (by first | exact VAt.newAt _ _ _ _ _ (by simp) | exact (VAt.newAt _ _ _ _ _ (by simp)).up _ | exact ((VAt.newAt _ _ _ _ _ (by simp)).up _).up _ | exact VAt.mk (by first | assumption | (simp <;> omega)) (by go_simp) (by go_simp) (by go_simp)) hb3
  have vn_3 : VAt w3 (w2.heap.size + 1 + 1) 2 (picked b 1048576) ⟨#[]⟩ := VAt.on (by first | exact VAt.newAt _ _ _ _ _ (by simp) | exact (VAt.newAt _ _ _ _ _ (by simp)).up _ | exact ((VAt.newAt _ _ _ _ _ (by simp)).up _).up _ | exact VAt.mk (by first | assumption | (simp <;> omega)) (by go_simp) (by go_simp) (by go_simp)) hb3
  have vo_3 : VAt w3 (w2.heap.size + 1 + 1 + 1) 2 (picked c 1048576) ⟨#[]⟩ := VAt.on (by first | exact VAt.newAt _ _ _ _ _ (by simp) | exact (VAt.newAt _ _ _ _ _ (by simp)).up _ | exact ((VAt.newAt _ _ _ _ _ (by simp)).up _).up _ | exact VAt.mk (by first | assumption | (simp <;> omega)) (by go_simp) (by go_simp) (by go_simp)) hb3
  clear zlx zxx zyx zzx zly zxy zyy zzy zlp zxp zyp zzp
  obtain ⟨zlm, zxm, zym, zzm⟩ := id vm_3
  obtain ⟨zln, zxn, zyn, zzn⟩ := id vn_3
  obtain ⟨zlo, zxo, zyo, zzo⟩ := id vo_3
  obtain ⟨bs0, bs1⟩ := twoR_bd2 Gs.out (by omega) (by omega) (by omega) (by omega)
  go_wp2_with fail
  refine (two_any 10 _ _ _ _ _ _ _ (.inr ⟨⟨by omega, by omega⟩, by omega, by omega⟩)).mono ?_
  rintro e w4 ⟨ku, nu, tu, eu, gu, rfl, hb4⟩
  have Gu := Lib.hid gu; clear gu
  have vm_4 : VAt w4 (w2.heap.size + 1) 2 (picked a 1048576) ⟨#[]⟩ := VAt.on (by first | exact vm_3 | exact vm_3.up _ | exact (vm_3.up _).up _ | exact ((vm_3.up _).up _).up _ | exact VAt.mk (by first | assumption | (simp <;> omega)) (by go_simp) (by go_simp) (by go_simp)) hb4; clear vm_3
  have vn_4 : VAt w4 (w2.heap.size + 1 + 1) 2 (picked b 1048576) ⟨#[]⟩ := VAt.on (by first | exact vn_3 | exact vn_3.up _ | exact (vn_3.up _).up _ | exact ((vn_3.up _).up _).up _ | exact VAt.mk (by first | assumption | (simp <;> omega)) (by go_simp) (by go_simp) (by go_simp)) hb4; clear vn_3
  have vo_4 : VAt w4 (w2.heap.size + 1 + 1 + 1) 2 (picked c 1048576) ⟨#[]⟩ := VAt.on (by first | exact vo_3 | exact vo_3.up _ | exact (vo_3.up _).up _ | exact ((vo_3.up _).up _).up _ | exact VAt.mk (by first | assumption | (simp <;> omega)) (by go_simp) (by go_simp) (by go_simp)) hb4; clear vo_3
  have vs_4 : VAt w4 (w3.heap.size) ks ns ts := VAt.on (by first | exact VAt.newAt _ _ _ _ _ (by simp) | exact (VAt.newAt _ _ _ _ _ (by simp)).up _ | exact ((VAt.newAt _ _ _ _ _ (by simp)).up _).up _ | exact VAt.mk (by first | assumption | (simp <;> omega)) (by go_simp) (by go_simp) (by go_simp)) hb4
  clear zlm zxm zym zzm zln zxn zyn zzn zlo zxo zyo zzo
  obtain ⟨zlm, zxm, zym, zzm⟩ := id vm_4
  obtain ⟨zln, zxn, zyn, zzn⟩ := id vn_4
  obtain ⟨zlo, zxo, zyo, zzo⟩ := id vo_4
  obtain ⟨zls, zxs, zys, zzs⟩ := id vs_4
  obtain ⟨bu0, bu1⟩ := twoR_bd2 Gu.out (by omega) (by omega) (by omega) (by omega)
  go_wp2_with fail
  refine (two_any 10 _ _ _ _ _ _ _ (.inr ⟨⟨by omega, by omega⟩, by omega, by omega⟩)).mono ?_
  rintro e w5 ⟨kv, nv, tv, ev, gv, rfl, hb5⟩
  have Gv := Lib.hid gv; clear gv
  have vm_5 : VAt w5 (w2.heap.size + 1) 2 (picked a 1048576) ⟨#[]⟩ := VAt.on (by first | exact vm_4 | exact vm_4.up _ | exact (vm_4.up _).up _ | exact ((vm_4.up _).up _).up _ | exact VAt.mk (by first | assumption | (simp <;> omega)) (by go_simp) (by go_simp) (by go_simp)) hb5; clear vm_4
  have vn_5 : VAt w5 (w2.heap.size + 1 + 1) 2 (picked b 1048576) ⟨#[]⟩ := VAt.on (by first | exact vn_4 | exact vn_4.up _ | exact (vn_4.up _).up _ | exact ((vn_4.up _).up _).up _ | exact VAt.mk (by first | assumption | (simp <;> omega)) (by go_simp) (by go_simp) (by go_simp)) hb5; clear vn_4
  have vo_5 : VAt w5 (w2.heap.size + 1 + 1 + 1) 2 (picked c 1048576) ⟨#[]⟩ := VAt.on (by first | exact vo_4 | exact vo_4.up _ | exact (vo_4.up _).up _ | exact ((vo_4.up _).up _).up _ | exact VAt.mk (by first | assumption | (simp <;> omega)) (by go_simp) (by go_simp) (by go_simp)) hb5; clear vo_4
  have vs_5 : VAt w5 (w3.heap.size) ks ns ts := VAt.on (by first | exact vs_4 | exact vs_4.up _ | exact (vs_4.up _).up _ | exact ((vs_4.up _).up _).up _ | exact VAt.mk (by first | assumption | (simp <;> omega)) (by go_simp) (by go_simp) (by go_simp)) hb5; clear vs_4
  have vu_5 : VAt w5 (w4.heap.size) ku nu tu := VAt.on (by first | exact VAt.newAt _ _ _ _ _ (by simp) | exact (VAt.newAt _ _ _ _ _ (by simp)).up _ | exact ((VAt.newAt _ _ _ _ _ (by simp)).up _).up _ | exact VAt.mk (by first | assumption | (simp <;> omega)) (by go_simp) (by go_simp) (by go_simp)) hb5
  clear zlm zxm zym zzm zln zxn zyn zzn zlo zxo zyo zzo zls zxs zys zzs
  obtain ⟨zlm, zxm, zym, zzm⟩ := id vm_5
  obtain ⟨zln, zxn, zyn, zzn⟩ := id vn_5
  obtain ⟨zlo, zxo, zyo, zzo⟩ := id vo_5
  obtain ⟨zls, zxs, zys, zzs⟩ := id vs_5
  obtain ⟨zlu, zxu, zyu, zzu⟩ := id vu_5
  obtain ⟨bv0, bv1⟩ := twoR_bd2 Gv.out (by omega) (by omega) (by omega) (by omega)
  go_wp2_with fail
  refine (two_any 10 _ _ _ _ _ _ _ (.inr ⟨⟨by omega, by omega⟩, by omega, by omega⟩)).mono ?_
  rintro e w6 ⟨kh, nh, th, eh, gh, rfl, hb6⟩
  have Gh := Lib.hid gh; clear gh
  have vm_6 : VAt w6 (w2.heap.size + 1) 2 (picked a 1048576) ⟨#[]⟩ := VAt.on (by first | exact vm_5 | exact vm_5.up _ | exact (vm_5.up _).up _ | exact ((vm_5.up _).up _).up _ | exact VAt.mk (by first | assumption | (simp <;> omega)) (by go_simp) (by go_simp) (by go_simp)) hb6; clear vm_5
  have vn_6 : VAt w6 (w2.heap.size + 1 + 1) 2 (picked b 1048576) ⟨#[]⟩ := VAt.on (by first | exact vn_5 | exact vn_5.up _ | exact (vn_5.up _).up _ | exact ((vn_5.up _).up _).up _ | exact VAt.mk (by first | assumption | (simp <;> omega)) (by go_simp) (by go_simp) (by go_simp)) hb6; clear vn_5
  have vo_6 : VAt w6 (w2.heap.size + 1 + 1 + 1) 2 (picked c 1048576) ⟨#[]⟩ := VAt.on (by first | exact vo_5 | exact vo_5.up _ | exact (vo_5.up _).up _ | exact ((vo_5.up _).up _).up _ | exact VAt.mk (by first | assumption | (simp <;> omega)) (by go_simp) (by go_simp) (by go_simp)) hb6; clear vo_5
  have vs_6 : VAt w6 (w3.heap.size) ks ns ts := VAt.on (by first | exact vs_5 | exact vs_5.up _ | exact (vs_5.up _).up _ | exact ((vs_5.up _).up _).up _ | exact VAt.mk (by first | assumption | (simp <;> omega)) (by go_simp) (by go_simp) (by go_simp)) hb6; clear vs_5
  have vu_6 : VAt w6 (w4.heap.size) ku nu tu := VAt.on (by first | exact vu_5 | exact vu_5.up _ | exact (vu_5.up _).up _ | exact ((vu_5.up _).up _).up _ | exact VAt.mk (by first | assumption | (simp <;> omega)) (by go_simp) (by go_simp) (by go_simp)) hb6; clear vu_5
  have vv_6 : VAt w6 (w5.heap.size) kv nv tv := VAt.on (by first | exact VAt.newAt _ _ _ _ _ (by simp) | exact (VAt.newAt _ _ _ _ _ (by simp)).up _ | exact ((VAt.newAt _ _ _ _ _ (by simp)).up _).up _ | exact VAt.mk (by first | assumption | (simp <;> omega)) (by go_simp) (by go_simp) (by go_simp)) hb6
  clear zlm zxm zym zzm zln zxn zyn zzn zlo zxo zyo zzo zls zxs zys zzs zlu zxu zyu zzu
  obtain ⟨zlm, zxm, zym, zzm⟩ := id vm_6
  obtain ⟨zln, zxn, zyn, zzn⟩ := id vn_6
  obtain ⟨zlo, zxo, zyo, zzo⟩ := id vo_6
  obtain ⟨zls, zxs, zys, zzs⟩ := id vs_6
  obtain ⟨zlu, zxu, zyu, zzu⟩ := id vu_6
  obtain ⟨zlv, zxv, zyv, zzv⟩ := id vv_6
  obtain ⟨bh0, bh1⟩ := twoR_bd2 Gh.out (by omega) (by omega) (by omega) (by omega)
  go_wp2_with fail
  refine (two_any 8 _ _ _ _ _ _ _ (.inr ⟨⟨by omega, by omega⟩, by omega, by omega⟩)).mono ?_
  rintro e w7 ⟨kr, nr, tr, er, gr, rfl, hb7⟩
  have Gr := Lib.hid gr; clear gr
  have vm_7 : VAt w7 (w2.heap.size + 1) 2 (picked a 1048576) ⟨#[]⟩ := VAt.on (by first | exact vm_6 | exact vm_6.up _ | exact (vm_6.up _).up _ | exact ((vm_6.up _).up _).up _ | exact VAt.mk (by first | assumption | (simp <;> omega)) (by go_simp) (by go_simp) (by go_simp)) hb7; clear vm_6
  have vn_7 : VAt w7 (w2.heap.size + 1 + 1) 2 (picked b 1048576) ⟨#[]⟩ := VAt.on (by first | exact vn_6 | exact vn_6.up _ | exact (vn_6.up _).up _ | exact ((vn_6.up _).up _).up _ | exact VAt.mk (by first | assumption | (simp <;> omega)) (by go_simp) (by go_simp) (by go_simp)) hb7; clear vn_6
  have vo_7 : VAt w7 (w2.heap.size + 1 + 1 + 1) 2 (picked c 1048576) ⟨#[]⟩ := VAt.on (by first | exact vo_6 | exact vo_6.up _ | exact (vo_6.up _).up _ | exact ((vo_6.up _).up _).up _ | exact VAt.mk (by first | assumption | (simp <;> omega)) (by go_simp) (by go_simp) (by go_simp)) hb7; clear vo_6
  have vs_7 : VAt w7 (w3.heap.size) ks ns ts := VAt.on (by first | exact vs_6 | exact vs_6.up _ | exact (vs_6.up _).up _ | exact ((vs_6.up _).up _).up _ | exact VAt.mk (by first | assumption | (simp <;> omega)) (by go_simp) (by go_simp) (by go_simp)) hb7; clear vs_6
  have vu_7 : VAt w7 (w4.heap.size) ku nu tu := VAt.on (by first | exact vu_6 | exact vu_6.up _ | exact (vu_6.up _).up _ | exact ((vu_6.up _).up _).up _ | exact VAt.mk (by first | assumption | (simp <;> omega)) (by go_simp) (by go_simp) (by go_simp)) hb7; clear vu_6
  have vv_7 : VAt w7 (w5.heap.size) kv nv tv := VAt.on (by first | exact vv_6 | exact vv_6.up _ | exact (vv_6.up _).up _ | exact ((vv_6.up _).up _).up _ | exact VAt.mk (by first | assumption | (simp <;> omega)) (by go_simp) (by go_simp) (by go_simp)) hb7; clear vv_6
  have vh_7 : VAt w7 (w6.heap.size) kh nh th := VAt.on (by first | exact VAt.newAt _ _ _ _ _ (by simp) | exact (VAt.newAt _ _ _ _ _ (by simp)).up _ | exact ((VAt.newAt _ _ _ _ _ (by simp)).up _).up _ | exact VAt.mk (by first | assumption | (simp <;> omega)) (by go_simp) (by go_simp) (by go_simp)) hb7
  clear zlm zxm zym zzm zln zxn zyn zzn zlo zxo zyo zzo zls zxs zys zzs zlu zxu zyu zzu zlv zxv zyv zzv
  obtain ⟨zlm, zxm, zym, zzm⟩ := id vm_7
  obtain ⟨zln, zxn, zyn, zzn⟩ := id vn_7
  obtain ⟨zlo, zxo, zyo, zzo⟩ := id vo_7
  obtain ⟨zls, zxs, zys, zzs⟩ := id vs_7
  obtain ⟨zlu, zxu, zyu, zzu⟩ := id vu_7
  obtain ⟨zlv, zxv, zyv, zzv⟩ := id vv_7
  obtain ⟨zlh, zxh, zyh, zzh⟩ := id vh_7
  obtain ⟨br0, br1⟩ := twoR_bd2 Gr.out (by omega) (by omega) (by omega) (by omega)
  go_wp2_with fail
  refine (two_any 10 _ _ _ _ _ _ _ (.inr ⟨⟨by omega, by omega⟩, by omega, by omega⟩)).mono ?_
  rintro e w8 ⟨kl, nl, tl, el, gl, rfl, hb8⟩
  have Gl := Lib.hid gl; clear gl
  have vm_8 : VAt w8 (w2.heap.size + 1) 2 (picked a 1048576) ⟨#[]⟩ := VAt.on (by first | exact vm_7 | exact vm_7.up _ | exact (vm_7.up _).up _ | exact ((vm_7.up _).up _).up _ | exact VAt.mk (by first | assumption | (simp <;> omega)) (by go_simp) (by go_simp) (by go_simp)) hb8; clear vm_7
  have vn_8 : VAt w8 (w2.heap.size + 1 + 1) 2 (picked b 1048576) ⟨#[]⟩ := VAt.on (by first | exact vn_7 | exact vn_7.up _ | exact (vn_7.up _).up _ | exact ((vn_7.up _).up _).up _ | exact VAt.mk (by first | assumption | (simp <;> omega)) (by go_simp) (by go_simp) (by go_simp)) hb8; clear vn_7
  have vo_8 : VAt w8 (w2.heap.size + 1 + 1 + 1) 2 (picked c 1048576) ⟨#[]⟩ := VAt.on (by first | exact vo_7 | exact vo_7.up _ | exact (vo_7.up _).up _ | exact ((vo_7.up _).up _).up _ | exact VAt.mk (by first | assumption | (simp <;> omega)) (by go_simp) (by go_simp) (by go_simp)) hb8; clear vo_7
  have vs_8 : VAt w8 (w3.heap.size) ks ns ts := VAt.on (by first | exact vs_7 | exact vs_7.up _ | exact (vs_7.up _).up _ | exact ((vs_7.up _).up _).up _ | exact VAt.mk (by first | assumption | (simp <;> omega)) (by go_simp) (by go_simp) (by go_simp)) hb8; clear vs_7
  have vu_8 : VAt w8 (w4.heap.size) ku nu tu := VAt.on (by first | exact vu_7 | exact vu_7.up _ | exact (vu_7.up _).up _ | exact ((vu_7.up _).up _).up _ | exact VAt.mk (by first | assumption | (simp <;> omega)) (by go_simp) (by go_simp) (by go_simp)) hb8; clear vu_7
  have vv_8 : VAt w8 (w5.heap.size) kv nv tv := VAt.on (by first | exact vv_7 | exact vv_7.up _ | exact (vv_7.up _).up _ | exact ((vv_7.up _).up _).up _ | exact VAt.mk (by first | assumption | (simp <;> omega)) (by go_simp) (by go_simp) (by go_simp)) hb8; clear vv_7
  have vh_8 : VAt w8 (w6.heap.size) kh nh th := VAt.on (by first | exact vh_7 | exact vh_7.up _ | exact (vh_7.up _).up _ | exact ((vh_7.up _).up _).up _ | exact VAt.mk (by first | assumption | (simp <;> omega)) (by go_simp) (by go_simp) (by go_simp)) hb8; clear vh_7
  have vr_8 : VAt w8 (w7.heap.size) kr nr tr := VAt.on (by first | exact VAt.newAt _ _ _ _ _ (by simp) | exact (VAt.newAt _ _ _ _ _ (by simp)).up _ | exact ((VAt.newAt _ _ _ _ _ (by simp)).up _).up _ | exact VAt.mk (by first | assumption | (simp <;> omega)) (by go_simp) (by go_simp) (by go_simp)) hb8
  clear zlm zxm zym zzm zln zxn zyn zzn zlo zxo zyo zzo zls zxs zys zzs zlu zxu zyu zzu zlv zxv zyv zzv zlh zxh zyh zzh
  obtain ⟨zlm, zxm, zym, zzm⟩ := id vm_8
  obtain ⟨zln, zxn, zyn, zzn⟩ := id vn_8
  obtain ⟨zlo, zxo, zyo, zzo⟩ := id vo_8
  obtain ⟨zls, zxs, zys, zzs⟩ := id vs_8
  obtain ⟨zlu, zxu, zyu, zzu⟩ := id vu_8
  obtain ⟨zlv, zxv, zyv, zzv⟩ := id vv_8
  obtain ⟨zlh, zxh, zyh, zzh⟩ := id vh_8
  obtain ⟨zlr, zxr, zyr, zzr⟩ := id vr_8
  obtain ⟨bl0, bl1⟩ := twoR_bd2 Gl.out (by omega) (by omega) (by omega) (by omega)
  obtain ⟨f0, f1, f2, f3, f4, f5, f6, f7⟩ := plainArithTimes Gp.out Gq.out Gs.out Gu.out Gv.out Gh.out Gr.out Gl.out
  go_wp2_with fail
  go_ret
  refine ⟨rfl, ?_⟩
  repeat (first | exact Below.refl _ _ | refine ext_via ?_ (by assumption) | refine ext_al ?_ _ | refine ext_dr ?_ | refine ext_drN _ ?_ | refine ext_set ?_ (by first | omega | (simp <;> omega)) _)

end Go.Proofs.Ytiaeeahoipakcaa.Vl
