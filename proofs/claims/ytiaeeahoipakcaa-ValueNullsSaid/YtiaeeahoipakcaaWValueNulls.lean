/-
  The walk of the law ValueNulls.
-/
import Derived.Test.YtiaeeahoipakcaaVord
namespace Go.Proofs.Ytiaeeahoipakcaa.Vl
open Go.RowKit Kit
set_option linter.unusedVariables false
set_option linter.unusedSimpArgs false

set_option maxHeartbeats 4000000 in
theorem plainValueNulls {K : Int} (hK : 6 ≤ K ∧ K ≤ 10) {kx nx : Int} {tx : ByteArray} {kind : Int} {ka na kh nh kv nv ku nu : Int} {ta th tv tu : ByteArray} {eh : Int} {ev : Int} {eu : Int}
    (ga : valueF kx nx tx = ⟨ka, na, ta⟩)
    (gh : oneR 11 ⟨ka, na, ta⟩ = (⟨kh, nh, th⟩, eh))
    (gv : twoR K ⟨ka, na, ta⟩ ⟨0, 0, ⟨#[]⟩⟩ = (⟨kv, nv, tv⟩, ev))
    (gu : twoR K ⟨0, 0, ⟨#[]⟩⟩ ⟨ka, na, ta⟩ = (⟨ku, nu, tu⟩, eu))
    : (eh != 0) = false ∧ (ev != eu) = false ∧ veqB kv nv tv ku nu tu = true ∧ (kv != 0) = false ∧ (nh == 1) = (ka == 0) ∧ (kh == 1) = true := by
  have oa := valueF_ok kx nx tx
  rw [ga] at oa
  simp only at oa
  clear ga
  have nilB := nilBytes
  have on : checkF 0 0 ⟨#[]⟩ = 0 := by simp [checkF, nilB]
  have h1 : oneR 11 ⟨ka, na, ta⟩ = (truthV (ka == 0), 0) := by rw [oneR, if_neg (by simp [oa]), if_pos rfl]
  rw [h1] at gh
  obtain ⟨h, rfl⟩ := Prod.mk.inj gh
  obtain ⟨rfl, rfl, rfl⟩ := V.mk.inj h
  have z : (twoR K ⟨ka, na, ta⟩ ⟨0, 0, ⟨#[]⟩⟩ = (.nil, 0) ∧ twoR K ⟨0, 0, ⟨#[]⟩⟩ ⟨ka, na, ta⟩ = (.nil, 0)) ∨ (twoR K ⟨ka, na, ta⟩ ⟨0, 0, ⟨#[]⟩⟩ = (.nil, 4) ∧ twoR K ⟨0, 0, ⟨#[]⟩⟩ ⟨ka, na, ta⟩ = (.nil, 4)) := by
    have b1 : ¬ bothF ka na ta 0 0 ⟨#[]⟩ ≠ 0 := by simp [bothF, oa, on]
    have b2 : ¬ bothF 0 0 ⟨#[]⟩ ka na ta ≠ 0 := by simp [bothF, oa, on]
    simp only [twoR, if_neg b1, if_neg b2, if_neg (show ¬ K = 3 from by omega), if_neg (show ¬ K = 4 from by omega)]
    by_cases hk : K = 6 ∨ K = 7
    · simp [if_pos hk, cmpR]
    · simp only [if_neg hk, if_pos (show K = 8 ∨ K = 9 ∨ K = 10 from by omega), arithR, okKind]
      by_cases hq : ka = 2 ∨ ka = 0
      · simp [hq]
      · simp [hq]
  rcases z with ⟨z1, z2⟩ | ⟨z1, z2⟩ <;> rw [z1] at gv <;> rw [z2] at gu
  all_goals
    obtain ⟨h, rfl⟩ := Prod.mk.inj gv
    obtain ⟨rfl, rfl, rfl⟩ := V.mk.inj h
    obtain ⟨h, rfl⟩ := Prod.mk.inj gu
    obtain ⟨rfl, rfl, rfl⟩ := V.mk.inj h
    cases hq : (ka == 0) <;> simp [veqB, b2i]

set_option maxHeartbeats 1000000 in
theorem walkValueNulls (kx : Int) (wkx : (Lit.int .i64 kx).wf = true) (nx : Int) (wnx : (Lit.int .i64 nx).wf = true) (tx : ByteArray) (wtx : tx.size ≤ maxLen) (kind : Int) (wkind : (Lit.int .i64 kind).wf = true) (w : World) :
    Calls Try.prog 12 #[.agg #[.int .i64 kx, .int .i64 nx, .string tx], .int .i64 kind] w fun e w' => e = .returned (.bool true) ∧ Below w.heap.size w w' := by
  obtain ⟨bkx0, bkx1⟩ := wf_bd wkx
  obtain ⟨bnx0, bnx1⟩ := wf_bd wnx
  clear wkx wnx
  obtain ⟨kind0, kind1⟩ := wf_bd wkind
  clear wkind
  have hK : picked kind 5 = 0 ∨ picked kind 5 = 1 ∨ picked kind 5 = 2 ∨ picked kind 5 = 3 ∨ picked kind 5 = 4 := by have := picked_bd kind 5 (by omega); omega
  rcases hK with hK | hK | hK | hK | hK
  · go_enter Try.func12, Try.ntmps12
    go_wp2_with fail
    refine (value_any kx nx tx _ (by omega) (by omega) (by omega) (by omega) wtx).mono ?_
    rintro e w1 ⟨ka, na, ta, ga, rfl, hb1⟩
    have Ga := Lib.hid ga; clear ga
    have vx_1 : VAt w1 (w.heap.size) kx nx tx := VAt.on (by first | exact VAt.newAt _ _ _ _ _ (by simp) | exact (VAt.newAt _ _ _ _ _ (by simp)).up _ | exact ((VAt.newAt _ _ _ _ _ (by simp)).up _).up _ | exact VAt.mk (by first | assumption | (simp <;> omega)) (by go_simp) (by go_simp) (by go_simp)) hb1
    obtain ⟨zlx, zxx, zyx, zzx⟩ := id vx_1
    obtain ⟨ba0, ba1⟩ := valueF_bd2 Ga.out (by omega) (by omega)
    go_wp2_with fail
    refine (one_any _ _ _ _ _).mono ?_
    rintro e w2 ⟨kh, nh, th, eh, gh, rfl, hb2⟩
    have Gh := Lib.hid gh; clear gh
    have va_2 : VAt w2 (w1.heap.size) ka na ta := VAt.on (by first | exact VAt.newAt _ _ _ _ _ (by simp) | exact (VAt.newAt _ _ _ _ _ (by simp)).up _ | exact ((VAt.newAt _ _ _ _ _ (by simp)).up _).up _ | exact VAt.mk (by first | assumption | (simp <;> omega)) (by go_simp) (by go_simp) (by go_simp)) hb2
    clear zlx zxx zyx zzx
    obtain ⟨zla, zxa, zya, zza⟩ := id va_2
    go_wp2_with fail
    refine (picked_any _ _ _ (by omega) (by omega) (by omega) (by omega)).mono ?_
    rintro e w' ⟨rfl, rfl⟩
    go_wp2_with fail
    refine (two_any 6 _ _ _ _ _ _ _ (.inr ⟨⟨by omega, by omega⟩, by omega, by omega⟩)).mono ?_
    rintro e w3 ⟨kv, nv, tv, ev, gv, rfl, hb3⟩
    have Gv := Lib.hid gv; clear gv
    have va_3 : VAt w3 (w1.heap.size) ka na ta := VAt.on (by first | exact va_2 | exact va_2.up _ | exact (va_2.up _).up _ | exact ((va_2.up _).up _).up _ | exact VAt.mk (by first | assumption | (simp <;> omega)) (by go_simp) (by go_simp) (by go_simp)) hb3; clear va_2
    have vh_3 : VAt w3 (w2.heap.size) kh nh th := VAt.on (by first | exact VAt.newAt _ _ _ _ _ (by simp) | exact (VAt.newAt _ _ _ _ _ (by simp)).up _ | exact ((VAt.newAt _ _ _ _ _ (by simp)).up _).up _ | exact VAt.mk (by first | assumption | (simp <;> omega)) (by go_simp) (by go_simp) (by go_simp)) hb3
    clear zla zxa zya zza
    obtain ⟨zla, zxa, zya, zza⟩ := id va_3
    obtain ⟨zlh, zxh, zyh, zzh⟩ := id vh_3
    obtain ⟨bv0, bv1⟩ := twoR_bd2 Gv.out (by omega) (by omega) (by omega) (by omega)
    go_wp2_with fail
    refine (two_any 6 _ _ _ _ _ _ _ (.inr ⟨⟨by omega, by omega⟩, by omega, by omega⟩)).mono ?_
    rintro e w4 ⟨ku, nu, tu, eu, gu, rfl, hb4⟩
    have Gu := Lib.hid gu; clear gu
    have va_4 : VAt w4 (w1.heap.size) ka na ta := VAt.on (by first | exact va_3 | exact va_3.up _ | exact (va_3.up _).up _ | exact ((va_3.up _).up _).up _ | exact VAt.mk (by first | assumption | (simp <;> omega)) (by go_simp) (by go_simp) (by go_simp)) hb4; clear va_3
    have vh_4 : VAt w4 (w2.heap.size) kh nh th := VAt.on (by first | exact vh_3 | exact vh_3.up _ | exact (vh_3.up _).up _ | exact ((vh_3.up _).up _).up _ | exact VAt.mk (by first | assumption | (simp <;> omega)) (by go_simp) (by go_simp) (by go_simp)) hb4; clear vh_3
    have vv_4 : VAt w4 (w3.heap.size) kv nv tv := VAt.on (by first | exact VAt.newAt _ _ _ _ _ (by simp) | exact (VAt.newAt _ _ _ _ _ (by simp)).up _ | exact ((VAt.newAt _ _ _ _ _ (by simp)).up _).up _ | exact VAt.mk (by first | assumption | (simp <;> omega)) (by go_simp) (by go_simp) (by go_simp)) hb4
    clear zla zxa zya zza zlh zxh zyh zzh
    obtain ⟨zla, zxa, zya, zza⟩ := id va_4
    obtain ⟨zlh, zxh, zyh, zzh⟩ := id vh_4
    obtain ⟨zlv, zxv, zyv, zzv⟩ := id vv_4
    obtain ⟨bu0, bu1⟩ := twoR_bd2 Gu.out (by omega) (by omega) (by omega) (by omega)
    obtain ⟨f0, f1, f2, f3, f4, f5⟩ := plainValueNulls (K := 6) (kind := 0) (by omega) Ga.out Gh.out Gv.out Gu.out
    go_wp2_with fail
    go_ret
    refine ⟨rfl, ?_⟩
    repeat (first | exact Below.refl _ _ | refine ext_via ?_ (by assumption) | refine ext_al ?_ _ | refine ext_dr ?_ | refine ext_drN _ ?_ | refine ext_set ?_ (by first | omega | (simp <;> omega)) _)
  · go_enter Try.func12, Try.ntmps12
    go_wp2_with fail
    refine (value_any kx nx tx _ (by omega) (by omega) (by omega) (by omega) wtx).mono ?_
    rintro e w1 ⟨ka, na, ta, ga, rfl, hb1⟩
    have Ga := Lib.hid ga; clear ga
    have vx_1 : VAt w1 (w.heap.size) kx nx tx := VAt.on (by first | exact VAt.newAt _ _ _ _ _ (by simp) | exact (VAt.newAt _ _ _ _ _ (by simp)).up _ | exact ((VAt.newAt _ _ _ _ _ (by simp)).up _).up _ | exact VAt.mk (by first | assumption | (simp <;> omega)) (by go_simp) (by go_simp) (by go_simp)) hb1
    obtain ⟨zlx, zxx, zyx, zzx⟩ := id vx_1
    obtain ⟨ba0, ba1⟩ := valueF_bd2 Ga.out (by omega) (by omega)
    go_wp2_with fail
    refine (one_any _ _ _ _ _).mono ?_
    rintro e w2 ⟨kh, nh, th, eh, gh, rfl, hb2⟩
    have Gh := Lib.hid gh; clear gh
    have va_2 : VAt w2 (w1.heap.size) ka na ta := VAt.on (by first | exact VAt.newAt _ _ _ _ _ (by simp) | exact (VAt.newAt _ _ _ _ _ (by simp)).up _ | exact ((VAt.newAt _ _ _ _ _ (by simp)).up _).up _ | exact VAt.mk (by first | assumption | (simp <;> omega)) (by go_simp) (by go_simp) (by go_simp)) hb2
    clear zlx zxx zyx zzx
    obtain ⟨zla, zxa, zya, zza⟩ := id va_2
    go_wp2_with fail
    refine (picked_any _ _ _ (by omega) (by omega) (by omega) (by omega)).mono ?_
    rintro e w' ⟨rfl, rfl⟩
    go_wp2_with fail
    refine (two_any 7 _ _ _ _ _ _ _ (.inr ⟨⟨by omega, by omega⟩, by omega, by omega⟩)).mono ?_
    rintro e w3 ⟨kv, nv, tv, ev, gv, rfl, hb3⟩
    have Gv := Lib.hid gv; clear gv
    have va_3 : VAt w3 (w1.heap.size) ka na ta := VAt.on (by first | exact va_2 | exact va_2.up _ | exact (va_2.up _).up _ | exact ((va_2.up _).up _).up _ | exact VAt.mk (by first | assumption | (simp <;> omega)) (by go_simp) (by go_simp) (by go_simp)) hb3; clear va_2
    have vh_3 : VAt w3 (w2.heap.size) kh nh th := VAt.on (by first | exact VAt.newAt _ _ _ _ _ (by simp) | exact (VAt.newAt _ _ _ _ _ (by simp)).up _ | exact ((VAt.newAt _ _ _ _ _ (by simp)).up _).up _ | exact VAt.mk (by first | assumption | (simp <;> omega)) (by go_simp) (by go_simp) (by go_simp)) hb3
    clear zla zxa zya zza
    obtain ⟨zla, zxa, zya, zza⟩ := id va_3
    obtain ⟨zlh, zxh, zyh, zzh⟩ := id vh_3
    obtain ⟨bv0, bv1⟩ := twoR_bd2 Gv.out (by omega) (by omega) (by omega) (by omega)
    go_wp2_with fail
    refine (two_any 7 _ _ _ _ _ _ _ (.inr ⟨⟨by omega, by omega⟩, by omega, by omega⟩)).mono ?_
    rintro e w4 ⟨ku, nu, tu, eu, gu, rfl, hb4⟩
    have Gu := Lib.hid gu; clear gu
    have va_4 : VAt w4 (w1.heap.size) ka na ta := VAt.on (by first | exact va_3 | exact va_3.up _ | exact (va_3.up _).up _ | exact ((va_3.up _).up _).up _ | exact VAt.mk (by first | assumption | (simp <;> omega)) (by go_simp) (by go_simp) (by go_simp)) hb4; clear va_3
    have vh_4 : VAt w4 (w2.heap.size) kh nh th := VAt.on (by first | exact vh_3 | exact vh_3.up _ | exact (vh_3.up _).up _ | exact ((vh_3.up _).up _).up _ | exact VAt.mk (by first | assumption | (simp <;> omega)) (by go_simp) (by go_simp) (by go_simp)) hb4; clear vh_3
    have vv_4 : VAt w4 (w3.heap.size) kv nv tv := VAt.on (by first | exact VAt.newAt _ _ _ _ _ (by simp) | exact (VAt.newAt _ _ _ _ _ (by simp)).up _ | exact ((VAt.newAt _ _ _ _ _ (by simp)).up _).up _ | exact VAt.mk (by first | assumption | (simp <;> omega)) (by go_simp) (by go_simp) (by go_simp)) hb4
    clear zla zxa zya zza zlh zxh zyh zzh
    obtain ⟨zla, zxa, zya, zza⟩ := id va_4
    obtain ⟨zlh, zxh, zyh, zzh⟩ := id vh_4
    obtain ⟨zlv, zxv, zyv, zzv⟩ := id vv_4
    obtain ⟨bu0, bu1⟩ := twoR_bd2 Gu.out (by omega) (by omega) (by omega) (by omega)
    obtain ⟨f0, f1, f2, f3, f4, f5⟩ := plainValueNulls (K := 7) (kind := 0) (by omega) Ga.out Gh.out Gv.out Gu.out
    go_wp2_with fail
    go_ret
    refine ⟨rfl, ?_⟩
    repeat (first | exact Below.refl _ _ | refine ext_via ?_ (by assumption) | refine ext_al ?_ _ | refine ext_dr ?_ | refine ext_drN _ ?_ | refine ext_set ?_ (by first | omega | (simp <;> omega)) _)
  · go_enter Try.func12, Try.ntmps12
    go_wp2_with fail
    refine (value_any kx nx tx _ (by omega) (by omega) (by omega) (by omega) wtx).mono ?_
    rintro e w1 ⟨ka, na, ta, ga, rfl, hb1⟩
    have Ga := Lib.hid ga; clear ga
    have vx_1 : VAt w1 (w.heap.size) kx nx tx := VAt.on (by first | exact VAt.newAt _ _ _ _ _ (by simp) | exact (VAt.newAt _ _ _ _ _ (by simp)).up _ | exact ((VAt.newAt _ _ _ _ _ (by simp)).up _).up _ | exact VAt.mk (by first | assumption | (simp <;> omega)) (by go_simp) (by go_simp) (by go_simp)) hb1
    obtain ⟨zlx, zxx, zyx, zzx⟩ := id vx_1
    obtain ⟨ba0, ba1⟩ := valueF_bd2 Ga.out (by omega) (by omega)
    go_wp2_with fail
    refine (one_any _ _ _ _ _).mono ?_
    rintro e w2 ⟨kh, nh, th, eh, gh, rfl, hb2⟩
    have Gh := Lib.hid gh; clear gh
    have va_2 : VAt w2 (w1.heap.size) ka na ta := VAt.on (by first | exact VAt.newAt _ _ _ _ _ (by simp) | exact (VAt.newAt _ _ _ _ _ (by simp)).up _ | exact ((VAt.newAt _ _ _ _ _ (by simp)).up _).up _ | exact VAt.mk (by first | assumption | (simp <;> omega)) (by go_simp) (by go_simp) (by go_simp)) hb2
    clear zlx zxx zyx zzx
    obtain ⟨zla, zxa, zya, zza⟩ := id va_2
    go_wp2_with fail
    refine (picked_any _ _ _ (by omega) (by omega) (by omega) (by omega)).mono ?_
    rintro e w' ⟨rfl, rfl⟩
    go_wp2_with fail
    refine (two_any 8 _ _ _ _ _ _ _ (.inr ⟨⟨by omega, by omega⟩, by omega, by omega⟩)).mono ?_
    rintro e w3 ⟨kv, nv, tv, ev, gv, rfl, hb3⟩
    have Gv := Lib.hid gv; clear gv
    have va_3 : VAt w3 (w1.heap.size) ka na ta := VAt.on (by first | exact va_2 | exact va_2.up _ | exact (va_2.up _).up _ | exact ((va_2.up _).up _).up _ | exact VAt.mk (by first | assumption | (simp <;> omega)) (by go_simp) (by go_simp) (by go_simp)) hb3; clear va_2
    have vh_3 : VAt w3 (w2.heap.size) kh nh th := VAt.on (by first | exact VAt.newAt _ _ _ _ _ (by simp) | exact (VAt.newAt _ _ _ _ _ (by simp)).up _ | exact ((VAt.newAt _ _ _ _ _ (by simp)).up _).up _ | exact VAt.mk (by first | assumption | (simp <;> omega)) (by go_simp) (by go_simp) (by go_simp)) hb3
    clear zla zxa zya zza
    obtain ⟨zla, zxa, zya, zza⟩ := id va_3
    obtain ⟨zlh, zxh, zyh, zzh⟩ := id vh_3
    obtain ⟨bv0, bv1⟩ := twoR_bd2 Gv.out (by omega) (by omega) (by omega) (by omega)
    go_wp2_with fail
    refine (two_any 8 _ _ _ _ _ _ _ (.inr ⟨⟨by omega, by omega⟩, by omega, by omega⟩)).mono ?_
    rintro e w4 ⟨ku, nu, tu, eu, gu, rfl, hb4⟩
    have Gu := Lib.hid gu; clear gu
    have va_4 : VAt w4 (w1.heap.size) ka na ta := VAt.on (by first | exact va_3 | exact va_3.up _ | exact (va_3.up _).up _ | exact ((va_3.up _).up _).up _ | exact VAt.mk (by first | assumption | (simp <;> omega)) (by go_simp) (by go_simp) (by go_simp)) hb4; clear va_3
    have vh_4 : VAt w4 (w2.heap.size) kh nh th := VAt.on (by first | exact vh_3 | exact vh_3.up _ | exact (vh_3.up _).up _ | exact ((vh_3.up _).up _).up _ | exact VAt.mk (by first | assumption | (simp <;> omega)) (by go_simp) (by go_simp) (by go_simp)) hb4; clear vh_3
    have vv_4 : VAt w4 (w3.heap.size) kv nv tv := VAt.on (by first | exact VAt.newAt _ _ _ _ _ (by simp) | exact (VAt.newAt _ _ _ _ _ (by simp)).up _ | exact ((VAt.newAt _ _ _ _ _ (by simp)).up _).up _ | exact VAt.mk (by first | assumption | (simp <;> omega)) (by go_simp) (by go_simp) (by go_simp)) hb4
    clear zla zxa zya zza zlh zxh zyh zzh
    obtain ⟨zla, zxa, zya, zza⟩ := id va_4
    obtain ⟨zlh, zxh, zyh, zzh⟩ := id vh_4
    obtain ⟨zlv, zxv, zyv, zzv⟩ := id vv_4
    obtain ⟨bu0, bu1⟩ := twoR_bd2 Gu.out (by omega) (by omega) (by omega) (by omega)
    obtain ⟨f0, f1, f2, f3, f4, f5⟩ := plainValueNulls (K := 8) (kind := 0) (by omega) Ga.out Gh.out Gv.out Gu.out
    go_wp2_with fail
    go_ret
    refine ⟨rfl, ?_⟩
    repeat (first | exact Below.refl _ _ | refine ext_via ?_ (by assumption) | refine ext_al ?_ _ | refine ext_dr ?_ | refine ext_drN _ ?_ | refine ext_set ?_ (by first | omega | (simp <;> omega)) _)
  · go_enter Try.func12, Try.ntmps12
    go_wp2_with fail
    refine (value_any kx nx tx _ (by omega) (by omega) (by omega) (by omega) wtx).mono ?_
    rintro e w1 ⟨ka, na, ta, ga, rfl, hb1⟩
    have Ga := Lib.hid ga; clear ga
    have vx_1 : VAt w1 (w.heap.size) kx nx tx := VAt.on (by first | exact VAt.newAt _ _ _ _ _ (by simp) | exact (VAt.newAt _ _ _ _ _ (by simp)).up _ | exact ((VAt.newAt _ _ _ _ _ (by simp)).up _).up _ | exact VAt.mk (by first | assumption | (simp <;> omega)) (by go_simp) (by go_simp) (by go_simp)) hb1
    obtain ⟨zlx, zxx, zyx, zzx⟩ := id vx_1
    obtain ⟨ba0, ba1⟩ := valueF_bd2 Ga.out (by omega) (by omega)
    go_wp2_with fail
    refine (one_any _ _ _ _ _).mono ?_
    rintro e w2 ⟨kh, nh, th, eh, gh, rfl, hb2⟩
    have Gh := Lib.hid gh; clear gh
    have va_2 : VAt w2 (w1.heap.size) ka na ta := VAt.on (by first | exact VAt.newAt _ _ _ _ _ (by simp) | exact (VAt.newAt _ _ _ _ _ (by simp)).up _ | exact ((VAt.newAt _ _ _ _ _ (by simp)).up _).up _ | exact VAt.mk (by first | assumption | (simp <;> omega)) (by go_simp) (by go_simp) (by go_simp)) hb2
    clear zlx zxx zyx zzx
    obtain ⟨zla, zxa, zya, zza⟩ := id va_2
    go_wp2_with fail
    refine (picked_any _ _ _ (by omega) (by omega) (by omega) (by omega)).mono ?_
    rintro e w' ⟨rfl, rfl⟩
    go_wp2_with fail
    refine (two_any 9 _ _ _ _ _ _ _ (.inr ⟨⟨by omega, by omega⟩, by omega, by omega⟩)).mono ?_
    rintro e w3 ⟨kv, nv, tv, ev, gv, rfl, hb3⟩
    have Gv := Lib.hid gv; clear gv
    have va_3 : VAt w3 (w1.heap.size) ka na ta := VAt.on (by first | exact va_2 | exact va_2.up _ | exact (va_2.up _).up _ | exact ((va_2.up _).up _).up _ | exact VAt.mk (by first | assumption | (simp <;> omega)) (by go_simp) (by go_simp) (by go_simp)) hb3; clear va_2
    have vh_3 : VAt w3 (w2.heap.size) kh nh th := VAt.on (by first | exact VAt.newAt _ _ _ _ _ (by simp) | exact (VAt.newAt _ _ _ _ _ (by simp)).up _ | exact ((VAt.newAt _ _ _ _ _ (by simp)).up _).up _ | exact VAt.mk (by first | assumption | (simp <;> omega)) (by go_simp) (by go_simp) (by go_simp)) hb3
    clear zla zxa zya zza
    obtain ⟨zla, zxa, zya, zza⟩ := id va_3
    obtain ⟨zlh, zxh, zyh, zzh⟩ := id vh_3
    obtain ⟨bv0, bv1⟩ := twoR_bd2 Gv.out (by omega) (by omega) (by omega) (by omega)
    go_wp2_with fail
    refine (two_any 9 _ _ _ _ _ _ _ (.inr ⟨⟨by omega, by omega⟩, by omega, by omega⟩)).mono ?_
    rintro e w4 ⟨ku, nu, tu, eu, gu, rfl, hb4⟩
    have Gu := Lib.hid gu; clear gu
    have va_4 : VAt w4 (w1.heap.size) ka na ta := VAt.on (by first | exact va_3 | exact va_3.up _ | exact (va_3.up _).up _ | exact ((va_3.up _).up _).up _ | exact VAt.mk (by first | assumption | (simp <;> omega)) (by go_simp) (by go_simp) (by go_simp)) hb4; clear va_3
    have vh_4 : VAt w4 (w2.heap.size) kh nh th := VAt.on (by first | exact vh_3 | exact vh_3.up _ | exact (vh_3.up _).up _ | exact ((vh_3.up _).up _).up _ | exact VAt.mk (by first | assumption | (simp <;> omega)) (by go_simp) (by go_simp) (by go_simp)) hb4; clear vh_3
    have vv_4 : VAt w4 (w3.heap.size) kv nv tv := VAt.on (by first | exact VAt.newAt _ _ _ _ _ (by simp) | exact (VAt.newAt _ _ _ _ _ (by simp)).up _ | exact ((VAt.newAt _ _ _ _ _ (by simp)).up _).up _ | exact VAt.mk (by first | assumption | (simp <;> omega)) (by go_simp) (by go_simp) (by go_simp)) hb4
    clear zla zxa zya zza zlh zxh zyh zzh
    obtain ⟨zla, zxa, zya, zza⟩ := id va_4
    obtain ⟨zlh, zxh, zyh, zzh⟩ := id vh_4
    obtain ⟨zlv, zxv, zyv, zzv⟩ := id vv_4
    obtain ⟨bu0, bu1⟩ := twoR_bd2 Gu.out (by omega) (by omega) (by omega) (by omega)
    obtain ⟨f0, f1, f2, f3, f4, f5⟩ := plainValueNulls (K := 9) (kind := 0) (by omega) Ga.out Gh.out Gv.out Gu.out
    go_wp2_with fail
    go_ret
    refine ⟨rfl, ?_⟩
    repeat (first | exact Below.refl _ _ | refine ext_via ?_ (by assumption) | refine ext_al ?_ _ | refine ext_dr ?_ | refine ext_drN _ ?_ | refine ext_set ?_ (by first | omega | (simp <;> omega)) _)
  · go_enter Try.func12, Try.ntmps12
    go_wp2_with fail
    refine (value_any kx nx tx _ (by omega) (by omega) (by omega) (by omega) wtx).mono ?_
    rintro e w1 ⟨ka, na, ta, ga, rfl, hb1⟩
    have Ga := Lib.hid ga; clear ga
    have vx_1 : VAt w1 (w.heap.size) kx nx tx := VAt.on (by first | exact VAt.newAt _ _ _ _ _ (by simp) | exact (VAt.newAt _ _ _ _ _ (by simp)).up _ | exact ((VAt.newAt _ _ _ _ _ (by simp)).up _).up _ | exact VAt.mk (by first | assumption | (simp <;> omega)) (by go_simp) (by go_simp) (by go_simp)) hb1
    obtain ⟨zlx, zxx, zyx, zzx⟩ := id vx_1
    obtain ⟨ba0, ba1⟩ := valueF_bd2 Ga.out (by omega) (by omega)
    go_wp2_with fail
    refine (one_any _ _ _ _ _).mono ?_
    rintro e w2 ⟨kh, nh, th, eh, gh, rfl, hb2⟩
    have Gh := Lib.hid gh; clear gh
    have va_2 : VAt w2 (w1.heap.size) ka na ta := VAt.on (by first | exact VAt.newAt _ _ _ _ _ (by simp) | exact (VAt.newAt _ _ _ _ _ (by simp)).up _ | exact ((VAt.newAt _ _ _ _ _ (by simp)).up _).up _ | exact VAt.mk (by first | assumption | (simp <;> omega)) (by go_simp) (by go_simp) (by go_simp)) hb2
    clear zlx zxx zyx zzx
    obtain ⟨zla, zxa, zya, zza⟩ := id va_2
    go_wp2_with fail
    refine (picked_any _ _ _ (by omega) (by omega) (by omega) (by omega)).mono ?_
    rintro e w' ⟨rfl, rfl⟩
    go_wp2_with fail
    refine (two_any 10 _ _ _ _ _ _ _ (.inr ⟨⟨by omega, by omega⟩, by omega, by omega⟩)).mono ?_
    rintro e w3 ⟨kv, nv, tv, ev, gv, rfl, hb3⟩
    have Gv := Lib.hid gv; clear gv
    have va_3 : VAt w3 (w1.heap.size) ka na ta := VAt.on (by first | exact va_2 | exact va_2.up _ | exact (va_2.up _).up _ | exact ((va_2.up _).up _).up _ | exact VAt.mk (by first | assumption | (simp <;> omega)) (by go_simp) (by go_simp) (by go_simp)) hb3; clear va_2
    have vh_3 : VAt w3 (w2.heap.size) kh nh th := VAt.on (by first | exact VAt.newAt _ _ _ _ _ (by simp) | exact (VAt.newAt _ _ _ _ _ (by simp)).up _ | exact ((VAt.newAt _ _ _ _ _ (by simp)).up _).up _ | exact VAt.mk (by first | assumption | (simp <;> omega)) (by go_simp) (by go_simp) (by go_simp)) hb3
    clear zla zxa zya zza
    obtain ⟨zla, zxa, zya, zza⟩ := id va_3
    obtain ⟨zlh, zxh, zyh, zzh⟩ := id vh_3
    obtain ⟨bv0, bv1⟩ := twoR_bd2 Gv.out (by omega) (by omega) (by omega) (by omega)
    go_wp2_with fail
    refine (two_any 10 _ _ _ _ _ _ _ (.inr ⟨⟨by omega, by omega⟩, by omega, by omega⟩)).mono ?_
    rintro e w4 ⟨ku, nu, tu, eu, gu, rfl, hb4⟩
    have Gu := Lib.hid gu; clear gu
    have va_4 : VAt w4 (w1.heap.size) ka na ta := VAt.on (by first | exact va_3 | exact va_3.up _ | exact (va_3.up _).up _ | exact ((va_3.up _).up _).up _ | exact VAt.mk (by first | assumption | (simp <;> omega)) (by go_simp) (by go_simp) (by go_simp)) hb4; clear va_3
    have vh_4 : VAt w4 (w2.heap.size) kh nh th := VAt.on (by first | exact vh_3 | exact vh_3.up _ | exact (vh_3.up _).up _ | exact ((vh_3.up _).up _).up _ | exact VAt.mk (by first | assumption | (simp <;> omega)) (by go_simp) (by go_simp) (by go_simp)) hb4; clear vh_3
    have vv_4 : VAt w4 (w3.heap.size) kv nv tv := VAt.on (by first | exact VAt.newAt _ _ _ _ _ (by simp) | exact (VAt.newAt _ _ _ _ _ (by simp)).up _ | exact ((VAt.newAt _ _ _ _ _ (by simp)).up _).up _ | exact VAt.mk (by first | assumption | (simp <;> omega)) (by go_simp) (by go_simp) (by go_simp)) hb4
    clear zla zxa zya zza zlh zxh zyh zzh
    obtain ⟨zla, zxa, zya, zza⟩ := id va_4
    obtain ⟨zlh, zxh, zyh, zzh⟩ := id vh_4
    obtain ⟨zlv, zxv, zyv, zzv⟩ := id vv_4
    obtain ⟨bu0, bu1⟩ := twoR_bd2 Gu.out (by omega) (by omega) (by omega) (by omega)
    obtain ⟨f0, f1, f2, f3, f4, f5⟩ := plainValueNulls (K := 10) (kind := 0) (by omega) Ga.out Gh.out Gv.out Gu.out
    go_wp2_with fail
    go_ret
    refine ⟨rfl, ?_⟩
    repeat (first | exact Below.refl _ _ | refine ext_via ?_ (by assumption) | refine ext_al ?_ _ | refine ext_dr ?_ | refine ext_drN _ ?_ | refine ext_set ?_ (by first | omega | (simp <;> omega)) _)

end Go.Proofs.Ytiaeeahoipakcaa.Vl
