/-
  The walk of the law LessSame.
-/
import Derived.Test.YtiaeeahoipakcaaVord
namespace Go.Proofs.Ytiaeeahoipakcaa.Vl
open Go.RowKit Kit
set_option linter.unusedVariables false
set_option linter.unusedSimpArgs false

set_option maxHeartbeats 4000000 in
theorem plainLessSame {kx nx : Int} {tx : ByteArray} {ky ny : Int} {ty : ByteArray} {ka na kb nb kf nf kg ng kh nh : Int} {ta tb tf tg th : ByteArray} {ef : Int} {eg : Int} {eh : Int}
    (ga : valueF kx nx tx = ⟨ka, na, ta⟩)
    (gb : valueF kx ny ty = ⟨kb, nb, tb⟩)
    (gf : twoR 7 ⟨ka, na, ta⟩ ⟨kb, nb, tb⟩ = (⟨kf, nf, tf⟩, ef))
    (gg : twoR 7 ⟨kb, nb, tb⟩ ⟨ka, na, ta⟩ = (⟨kg, ng, tg⟩, eg))
    (gh : twoR 6 ⟨ka, na, ta⟩ ⟨kb, nb, tb⟩ = (⟨kh, nh, th⟩, eh))
    : (ef != 0) = false ∧ (eg != 0) = false ∧ (eh != 0) = false ∧ (((ka == 0) = true ∧ (kf == 0) = true ∧ (kg == 0) = true ∧ (kh == 0) = true) ∨ ((ka == 0) = false ∧ (0 ≤ nf ∧ nf ≤ 1 ∧ 0 ≤ ng ∧ ng ≤ 1 ∧ 0 ≤ nh ∧ nh ≤ 1) ∧ (nf + ng + nh == 1) = true)) := by
  have oa := valueF_ok kx nx tx
  have ob := valueF_ok kx ny ty
  have ea := valueF_k kx nx tx
  have eb := valueF_k kx ny ty
  rw [ga] at oa ea; rw [gb] at ob eb
  simp only at oa ob ea eb
  have e : ka = kb := by omega
  clear ga gb
  have v := cmpF_val ka na ta kb nb tb
  by_cases h0 : ka = 0
  · have z : ∀ k, (k = 6 ∨ k = 7) → twoR k ⟨ka, na, ta⟩ ⟨kb, nb, tb⟩ = (.nil, 0) ∧ twoR k ⟨kb, nb, tb⟩ ⟨ka, na, ta⟩ = (.nil, 0) := by
      intro k hk
      constructor <;> (rw [twoR, if_neg (by simp [bothF, oa, ob]), if_neg (by omega), if_neg (by omega), if_pos (by omega), cmpR, if_pos (by simp; omega)])
    rw [(z 7 (by omega)).1] at gf
    rw [(z 7 (by omega)).2] at gg
    rw [(z 6 (by omega)).1] at gh
    obtain ⟨h, rfl⟩ := Prod.mk.inj gf
    obtain ⟨rfl, rfl, rfl⟩ := V.mk.inj h
    obtain ⟨h, rfl⟩ := Prod.mk.inj gg
    obtain ⟨rfl, rfl, rfl⟩ := V.mk.inj h
    obtain ⟨h, rfl⟩ := Prod.mk.inj gh
    obtain ⟨rfl, rfl, rfl⟩ := V.mk.inj h
    exact ⟨rfl, rfl, rfl, .inl ⟨by simp [h0], rfl, rfl, rfl⟩⟩
  · have z : ∀ k, (k = 6 ∨ k = 7) → twoR k ⟨ka, na, ta⟩ ⟨kb, nb, tb⟩ = (truthV (cmpB k (cmpF ka na ta kb nb tb)), 0) ∧ twoR k ⟨kb, nb, tb⟩ ⟨ka, na, ta⟩ = (truthV (cmpB k (cmpF kb nb tb ka na ta)), 0) := by
      intro k hk
      constructor <;> (rw [twoR, if_neg (by simp [bothF, oa, ob]), if_neg (by omega), if_neg (by omega), if_pos (by omega), cmpR, if_neg (by simp; omega), if_neg (by simp; omega)])
    rw [(z 7 (by omega)).1] at gf
    rw [(z 7 (by omega)).2] at gg
    rw [(z 6 (by omega)).1] at gh
    obtain ⟨h, rfl⟩ := Prod.mk.inj gf
    obtain ⟨rfl, rfl, rfl⟩ := V.mk.inj h
    obtain ⟨h, rfl⟩ := Prod.mk.inj gg
    obtain ⟨rfl, rfl, rfl⟩ := V.mk.inj h
    obtain ⟨h, rfl⟩ := Prod.mk.inj gh
    obtain ⟨rfl, rfl, rfl⟩ := V.mk.inj h
    refine ⟨rfl, rfl, rfl, .inr ⟨by simp [h0], ?_⟩⟩
    rcases v with ⟨h, h', _⟩ | ⟨h, h', _⟩ | ⟨h, h', _⟩ <;> rw [h, h'] <;> simp [cmpB, b2i]

set_option maxHeartbeats 1000000 in
theorem walkLessSame (kx : Int) (wkx : (Lit.int .i64 kx).wf = true) (nx : Int) (wnx : (Lit.int .i64 nx).wf = true) (tx : ByteArray) (wtx : tx.size ≤ maxLen) (ky : Int) (wky : (Lit.int .i64 ky).wf = true) (ny : Int) (wny : (Lit.int .i64 ny).wf = true) (ty : ByteArray) (wty : ty.size ≤ maxLen) (w : World) :
    Calls Try.prog 7 #[.agg #[.int .i64 kx, .int .i64 nx, .string tx], .agg #[.int .i64 ky, .int .i64 ny, .string ty]] w fun e w' => e = .returned (.bool true) ∧ Below w.heap.size w w' := by
  obtain ⟨bkx0, bkx1⟩ := wf_bd wkx
  obtain ⟨bnx0, bnx1⟩ := wf_bd wnx
  clear wkx wnx
  obtain ⟨bky0, bky1⟩ := wf_bd wky
  obtain ⟨bny0, bny1⟩ := wf_bd wny
  clear wky wny
  go_enter Try.func7, Try.ntmps7
  go_wp2_with fail
  refine (value_any kx nx tx _ (by omega) (by omega) (by omega) (by omega) wtx).mono ?_
  rintro e w1 ⟨ka, na, ta, ga, rfl, hb1⟩
  have Ga := Lib.hid ga; clear ga
  have vx_1 : VAt w1 (w.heap.size) kx nx tx := VAt.on (by first | exact VAt.newAt _ _ _ _ _ (by simp) | exact (VAt.newAt _ _ _ _ _ (by simp)).up _ | exact ((VAt.newAt _ _ _ _ _ (by simp)).up _).up _ | exact VAt.mk (by first | assumption | (simp <;> omega)) (by go_simp) (by go_simp) (by go_simp)) hb1
  have vy_1 : VAt w1 (w.heap.size + 1) ky ny ty := VAt.on (by first | exact VAt.newAt _ _ _ _ _ (by simp) | exact (VAt.newAt _ _ _ _ _ (by simp)).up _ | exact ((VAt.newAt _ _ _ _ _ (by simp)).up _).up _ | exact VAt.mk (by first | assumption | (simp <;> omega)) (by go_simp) (by go_simp) (by go_simp)) hb1
  obtain ⟨zlx, zxx, zyx, zzx⟩ := id vx_1
  obtain ⟨zly, zxy, zyy, zzy⟩ := id vy_1
  have fz : w1.frozen? ⟨w.heap.size + 1, 0, none⟩ = false := by rw [(keep hb1 (w.heap.size + 1) (by simp)).2]; go_simp
  go_wp2_with fail
  refine (value_any kx ny ty _ (by omega) (by omega) (by omega) (by omega) wty).mono ?_
  rintro e w2 ⟨kb, nb, tb, gb, rfl, hb2⟩
  have Gb := Lib.hid gb; clear gb
  have va_2 : VAt w2 (w1.heap.size) ka na ta := VAt.on (by first | exact VAt.newAt _ _ _ _ _ (by simp) | exact (VAt.newAt _ _ _ _ _ (by simp)).up _ | exact ((VAt.newAt _ _ _ _ _ (by simp)).up _).up _ | exact VAt.mk (by first | assumption | (simp <;> omega)) (by go_simp) (by go_simp) (by go_simp)) hb2
  clear zlx zxx zyx zzx zly zxy zyy zzy
  obtain ⟨zla, zxa, zya, zza⟩ := id va_2
  go_wp2_with fail
  refine (two_any 7 _ _ _ _ _ _ _ (.inl (by omega))).mono ?_
  rintro e w3 ⟨kf, nf, tf, ef, gf, rfl, hb3⟩
  have Gf := Lib.hid gf; clear gf
  have va_3 : VAt w3 (w1.heap.size) ka na ta := VAt.on (by first | exact va_2 | exact va_2.up _ | exact (va_2.up _).up _ | exact ((va_2.up _).up _).up _ | exact VAt.mk (by first | assumption | (simp <;> omega)) (by go_simp) (by go_simp) (by go_simp)) hb3; clear va_2
  have vb_3 : VAt w3 (w2.heap.size) kb nb tb := VAt.on (by first | exact VAt.newAt _ _ _ _ _ (by simp) | exact (VAt.newAt _ _ _ _ _ (by simp)).up _ | exact ((VAt.newAt _ _ _ _ _ (by simp)).up _).up _ | exact VAt.mk (by first | assumption | (simp <;> omega)) (by go_simp) (by go_simp) (by go_simp)) hb3
  clear zla zxa zya zza
  obtain ⟨zla, zxa, zya, zza⟩ := id va_3
  obtain ⟨zlb, zxb, zyb, zzb⟩ := id vb_3
  go_wp2_with fail
  refine (two_any 7 _ _ _ _ _ _ _ (.inl (by omega))).mono ?_
  rintro e w4 ⟨kg, ng, tg, eg, gg, rfl, hb4⟩
  have Gg := Lib.hid gg; clear gg
  have va_4 : VAt w4 (w1.heap.size) ka na ta := VAt.on (by first | exact va_3 | exact va_3.up _ | exact (va_3.up _).up _ | exact ((va_3.up _).up _).up _ | exact VAt.mk (by first | assumption | (simp <;> omega)) (by go_simp) (by go_simp) (by go_simp)) hb4; clear va_3
  have vb_4 : VAt w4 (w2.heap.size) kb nb tb := VAt.on (by first | exact vb_3 | exact vb_3.up _ | exact (vb_3.up _).up _ | exact ((vb_3.up _).up _).up _ | exact VAt.mk (by first | assumption | (simp <;> omega)) (by go_simp) (by go_simp) (by go_simp)) hb4; clear vb_3
  have vf_4 : VAt w4 (w3.heap.size) kf nf tf := VAt.on (by first | exact VAt.newAt _ _ _ _ _ (by simp) | exact (VAt.newAt _ _ _ _ _ (by simp)).up _ | exact ((VAt.newAt _ _ _ _ _ (by simp)).up _).up _ | exact VAt.mk (by first | assumption | (simp <;> omega)) (by go_simp) (by go_simp) (by go_simp)) hb4
  clear zla zxa zya zza zlb zxb zyb zzb
  obtain ⟨zla, zxa, zya, zza⟩ := id va_4
  obtain ⟨zlb, zxb, zyb, zzb⟩ := id vb_4
  obtain ⟨zlf, zxf, zyf, zzf⟩ := id vf_4
  go_wp2_with fail
  refine (two_any 6 _ _ _ _ _ _ _ (.inl (by omega))).mono ?_
  rintro e w5 ⟨kh, nh, th, eh, gh, rfl, hb5⟩
  have Gh := Lib.hid gh; clear gh
  have va_5 : VAt w5 (w1.heap.size) ka na ta := VAt.on (by first | exact va_4 | exact va_4.up _ | exact (va_4.up _).up _ | exact ((va_4.up _).up _).up _ | exact VAt.mk (by first | assumption | (simp <;> omega)) (by go_simp) (by go_simp) (by go_simp)) hb5; clear va_4
  have vb_5 : VAt w5 (w2.heap.size) kb nb tb := VAt.on (by first | exact vb_4 | exact vb_4.up _ | exact (vb_4.up _).up _ | exact ((vb_4.up _).up _).up _ | exact VAt.mk (by first | assumption | (simp <;> omega)) (by go_simp) (by go_simp) (by go_simp)) hb5; clear vb_4
  have vf_5 : VAt w5 (w3.heap.size) kf nf tf := VAt.on (by first | exact vf_4 | exact vf_4.up _ | exact (vf_4.up _).up _ | exact ((vf_4.up _).up _).up _ | exact VAt.mk (by first | assumption | (simp <;> omega)) (by go_simp) (by go_simp) (by go_simp)) hb5; clear vf_4
  have vg_5 : VAt w5 (w4.heap.size) kg ng tg := VAt.on (by first | exact VAt.newAt _ _ _ _ _ (by simp) | exact (VAt.newAt _ _ _ _ _ (by simp)).up _ | exact ((VAt.newAt _ _ _ _ _ (by simp)).up _).up _ | exact VAt.mk (by first | assumption | (simp <;> omega)) (by go_simp) (by go_simp) (by go_simp)) hb5
  clear zla zxa zya zza zlb zxb zyb zzb zlf zxf zyf zzf
  obtain ⟨zla, zxa, zya, zza⟩ := id va_5
  obtain ⟨zlb, zxb, zyb, zzb⟩ := id vb_5
  obtain ⟨zlf, zxf, zyf, zzf⟩ := id vf_5
  obtain ⟨zlg, zxg, zyg, zzg⟩ := id vg_5
  obtain ⟨f0, f1, f2, f3⟩ := plainLessSame (ky := 0) Ga.out Gb.out Gf.out Gg.out Gh.out
  have fc : (checkF 9 0 ⟨#[]⟩ == 2) = true := by simp [checkF]
  rcases f3 with ⟨h0, h1, h2, h3⟩ | ⟨h0, ⟨h1, h2, h3, h4, h5, h6⟩, h7⟩
  · go_wp2_with fail
    refine (check_any _ _ _ _).mono ?_
    rintro e w9 ⟨rfl, hb9⟩
    go_wp2_with fail
    go_ret
    refine ⟨rfl, ?_⟩
    repeat (first | exact Below.refl _ _ | refine ext_via ?_ (by assumption) | refine ext_al ?_ _ | refine ext_dr ?_ | refine ext_drN _ ?_ | refine ext_set ?_ (by first | omega | (simp <;> omega)) _)
  · go_wp2_with fail
    go_ret
    refine ⟨?_, ?_⟩
    · first
        | rfl
        | (show Ending.returned (.bool (nf + ng + nh == 1)) = _; rw [h7])
    repeat (first | exact Below.refl _ _ | refine ext_via ?_ (by assumption) | refine ext_al ?_ _ | refine ext_dr ?_ | refine ext_drN _ ?_ | refine ext_set ?_ (by first | omega | (simp <;> omega)) _)

end Go.Proofs.Ytiaeeahoipakcaa.Vl
