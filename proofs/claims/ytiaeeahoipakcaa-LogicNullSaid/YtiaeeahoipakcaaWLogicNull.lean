/-
  The walk of the law LogicNull.
-/
import Derived.Test.YtiaeeahoipakcaaVal4
namespace Go.Proofs.Ytiaeeahoipakcaa.Vl
open Go.RowKit Kit
set_option linter.unusedVariables false
set_option linter.unusedSimpArgs false

set_option maxHeartbeats 4000000 in
theorem plainLogicNull {x : Int} {ka na kf nf kg ng kh nh ki ni : Int} {ta tf tg th ti : ByteArray} {ef : Int} {eg : Int} {eh : Int} {ei : Int}
    (ga : truthF x = ⟨ka, na, ta⟩)
    (gf : twoR 3 ⟨ka, na, ta⟩ ⟨0, 0, ⟨#[]⟩⟩ = (⟨kf, nf, tf⟩, ef))
    (gg : twoR 4 ⟨ka, na, ta⟩ ⟨0, 0, ⟨#[]⟩⟩ = (⟨kg, ng, tg⟩, eg))
    (gh : oneR 11 ⟨ka, na, ta⟩ = (⟨kh, nh, th⟩, eh))
    (gi : twoR 6 ⟨ka, na, ta⟩ ⟨0, 0, ⟨#[]⟩⟩ = (⟨ki, ni, ti⟩, ei))
    : (ef != 0) = false ∧ (eg != 0) = false ∧ (eh != 0) = false ∧ (ei != 0) = false ∧ (ki != 0) = false ∧ (((veqB kf nf tf 1 0 ⟨#[]⟩) = false ∧ (veqB ka na ta 1 0 ⟨#[]⟩) = false ∧ (veqB kg ng tg 1 1 ⟨#[]⟩) = false ∧ (veqB ka na ta 1 1 ⟨#[]⟩) = false ∧ (ka == 0) = true ∧ (kf == 0) = true ∧ (kg == 0) = true ∧ (veqB kh nh th 1 1 ⟨#[]⟩) = true) ∨ ((veqB kf nf tf 1 0 ⟨#[]⟩) = true ∧ (veqB ka na ta 1 0 ⟨#[]⟩) = true ∧ (veqB kg ng tg 1 1 ⟨#[]⟩) = false ∧ (veqB ka na ta 1 1 ⟨#[]⟩) = false ∧ (ka == 0) = false ∧ (kf == 0) = false ∧ (kg == 0) = true ∧ (veqB kh nh th 1 1 ⟨#[]⟩) = false) ∨ ((veqB kf nf tf 1 0 ⟨#[]⟩) = false ∧ (veqB ka na ta 1 0 ⟨#[]⟩) = false ∧ (veqB kg ng tg 1 1 ⟨#[]⟩) = true ∧ (veqB ka na ta 1 1 ⟨#[]⟩) = true ∧ (ka == 0) = false ∧ (kf == 0) = true ∧ (kg == 0) = false ∧ (veqB kh nh th 1 1 ⟨#[]⟩) = false)) := by
  have ha : IsT ⟨ka, na, ta⟩ := by rw [← ga]; exact truthF_isT _
  clear ga
  have nilB := nilBytes
  rcases ha with ha | ha | ha
  all_goals
    obtain ⟨rfl, rfl, rfl⟩ := V.mk.inj ha
    simp [twoR, oneR, bothF, checkF, logicR, cmpR, cmpB, cmpF, truthV, b2i, V.nil, nilB, or3F, Lib.compareInt, Lib.compareBytes, @eq_comm Int _ kf, @eq_comm Int _ nf, @eq_comm ByteArray _ tf, @eq_comm Int _ ef] at gf
    obtain ⟨⟨rfl, rfl, rfl⟩, rfl⟩ := gf
    simp [twoR, oneR, bothF, checkF, logicR, cmpR, cmpB, cmpF, truthV, b2i, V.nil, nilB, or3F, Lib.compareInt, Lib.compareBytes, @eq_comm Int _ kg, @eq_comm Int _ ng, @eq_comm ByteArray _ tg, @eq_comm Int _ eg] at gg
    obtain ⟨⟨rfl, rfl, rfl⟩, rfl⟩ := gg
    simp [twoR, oneR, bothF, checkF, logicR, cmpR, cmpB, cmpF, truthV, b2i, V.nil, nilB, or3F, Lib.compareInt, Lib.compareBytes, @eq_comm Int _ kh, @eq_comm Int _ nh, @eq_comm ByteArray _ th, @eq_comm Int _ eh] at gh
    obtain ⟨⟨rfl, rfl, rfl⟩, rfl⟩ := gh
    simp [twoR, oneR, bothF, checkF, logicR, cmpR, cmpB, cmpF, truthV, b2i, V.nil, nilB, or3F, Lib.compareInt, Lib.compareBytes, @eq_comm Int _ ki, @eq_comm Int _ ni, @eq_comm ByteArray _ ti, @eq_comm Int _ ei] at gi
    obtain ⟨⟨rfl, rfl, rfl⟩, rfl⟩ := gi
    simp [veqB, nilB]

set_option maxHeartbeats 1000000 in
theorem walkLogicNull (x : Int) (wx : (Lit.int .i64 x).wf = true) (w : World) :
    Calls Try.prog 11 #[.int .i64 x] w fun e w' => e = .returned (.bool true) ∧ Below w.heap.size w w' := by
  obtain ⟨x0, x1⟩ := wf_bd wx
  clear wx
  go_enter Try.func11, Try.ntmps11
  go_wp2_with fail
  refine (truth3_any _ _ x0 x1).mono ?_
  rintro e w1 ⟨ka, na, ta, ga, rfl, hb1⟩
  have Ga := Lib.hid ga; clear ga
  go_wp2_with fail
  refine (two_any 3 _ _ _ _ _ _ _ (.inl (by omega))).mono ?_
  rintro e w2 ⟨kf, nf, tf, ef, gf, rfl, hb2⟩
  have Gf := Lib.hid gf; clear gf
  have va_2 : VAt w2 (w1.heap.size) ka na ta := VAt.on (by first | exact VAt.newAt _ _ _ _ _ (by simp) | exact (VAt.newAt _ _ _ _ _ (by simp)).up _ | exact ((VAt.newAt _ _ _ _ _ (by simp)).up _).up _ | exact VAt.mk (by first | assumption | (simp <;> omega)) (by go_simp) (by go_simp) (by go_simp)) hb2
  have vb_2 : VAt w2 (w1.heap.size + 1) 1 0 ⟨#[]⟩ := VAt.on (by first | exact VAt.newAt _ _ _ _ _ (by simp) | exact (VAt.newAt _ _ _ _ _ (by simp)).up _ | exact ((VAt.newAt _ _ _ _ _ (by simp)).up _).up _ | exact VAt.mk (by first | assumption | (simp <;> omega)) (by go_simp) (by go_simp) (by go_simp)) hb2
  have vd_2 : VAt w2 (w1.heap.size + 1 + 1) 1 1 ⟨#[]⟩ := VAt.on (by first | exact VAt.newAt _ _ _ _ _ (by simp) | exact (VAt.newAt _ _ _ _ _ (by simp)).up _ | exact ((VAt.newAt _ _ _ _ _ (by simp)).up _).up _ | exact VAt.mk (by first | assumption | (simp <;> omega)) (by go_simp) (by go_simp) (by go_simp)) hb2
  obtain ⟨zla, zxa, zya, zza⟩ := id va_2
  obtain ⟨zlb, zxb, zyb, zzb⟩ := id vb_2
  obtain ⟨zld, zxd, zyd, zzd⟩ := id vd_2
  go_wp2_with fail
  refine (two_any 4 _ _ _ _ _ _ _ (.inl (by omega))).mono ?_
  rintro e w3 ⟨kg, ng, tg, eg, gg, rfl, hb3⟩
  have Gg := Lib.hid gg; clear gg
  have va_3 : VAt w3 (w1.heap.size) ka na ta := VAt.on (by first | exact va_2 | exact va_2.up _ | exact (va_2.up _).up _ | exact ((va_2.up _).up _).up _ | exact VAt.mk (by first | assumption | (simp <;> omega)) (by go_simp) (by go_simp) (by go_simp)) hb3; clear va_2
  have vb_3 : VAt w3 (w1.heap.size + 1) 1 0 ⟨#[]⟩ := VAt.on (by first | exact vb_2 | exact vb_2.up _ | exact (vb_2.up _).up _ | exact ((vb_2.up _).up _).up _ | exact VAt.mk (by first | assumption | (simp <;> omega)) (by go_simp) (by go_simp) (by go_simp)) hb3; clear vb_2
  have vd_3 : VAt w3 (w1.heap.size + 1 + 1) 1 1 ⟨#[]⟩ := VAt.on (by first | exact vd_2 | exact vd_2.up _ | exact (vd_2.up _).up _ | exact ((vd_2.up _).up _).up _ | exact VAt.mk (by first | assumption | (simp <;> omega)) (by go_simp) (by go_simp) (by go_simp)) hb3; clear vd_2
  have vf_3 : VAt w3 (w2.heap.size) kf nf tf := VAt.on (by first | exact VAt.newAt _ _ _ _ _ (by simp) | exact (VAt.newAt _ _ _ _ _ (by simp)).up _ | exact ((VAt.newAt _ _ _ _ _ (by simp)).up _).up _ | exact VAt.mk (by first | assumption | (simp <;> omega)) (by go_simp) (by go_simp) (by go_simp)) hb3
  clear zla zxa zya zza zlb zxb zyb zzb zld zxd zyd zzd
  obtain ⟨zla, zxa, zya, zza⟩ := id va_3
  obtain ⟨zlb, zxb, zyb, zzb⟩ := id vb_3
  obtain ⟨zld, zxd, zyd, zzd⟩ := id vd_3
  obtain ⟨zlf, zxf, zyf, zzf⟩ := id vf_3
  go_wp2_with fail
  refine (one_any _ _ _ _ _).mono ?_
  rintro e w4 ⟨kh, nh, th, eh, gh, rfl, hb4⟩
  have Gh := Lib.hid gh; clear gh
  have va_4 : VAt w4 (w1.heap.size) ka na ta := VAt.on (by first | exact va_3 | exact va_3.up _ | exact (va_3.up _).up _ | exact ((va_3.up _).up _).up _ | exact VAt.mk (by first | assumption | (simp <;> omega)) (by go_simp) (by go_simp) (by go_simp)) hb4; clear va_3
  have vb_4 : VAt w4 (w1.heap.size + 1) 1 0 ⟨#[]⟩ := VAt.on (by first | exact vb_3 | exact vb_3.up _ | exact (vb_3.up _).up _ | exact ((vb_3.up _).up _).up _ | exact VAt.mk (by first | assumption | (simp <;> omega)) (by go_simp) (by go_simp) (by go_simp)) hb4; clear vb_3
  have vd_4 : VAt w4 (w1.heap.size + 1 + 1) 1 1 ⟨#[]⟩ := VAt.on (by first | exact vd_3 | exact vd_3.up _ | exact (vd_3.up _).up _ | exact ((vd_3.up _).up _).up _ | exact VAt.mk (by first | assumption | (simp <;> omega)) (by go_simp) (by go_simp) (by go_simp)) hb4; clear vd_3
  have vf_4 : VAt w4 (w2.heap.size) kf nf tf := VAt.on (by first | exact vf_3 | exact vf_3.up _ | exact (vf_3.up _).up _ | exact ((vf_3.up _).up _).up _ | exact VAt.mk (by first | assumption | (simp <;> omega)) (by go_simp) (by go_simp) (by go_simp)) hb4; clear vf_3
  have vg_4 : VAt w4 (w3.heap.size) kg ng tg := VAt.on (by first | exact VAt.newAt _ _ _ _ _ (by simp) | exact (VAt.newAt _ _ _ _ _ (by simp)).up _ | exact ((VAt.newAt _ _ _ _ _ (by simp)).up _).up _ | exact VAt.mk (by first | assumption | (simp <;> omega)) (by go_simp) (by go_simp) (by go_simp)) hb4
  clear zla zxa zya zza zlb zxb zyb zzb zld zxd zyd zzd zlf zxf zyf zzf
  obtain ⟨zla, zxa, zya, zza⟩ := id va_4
  obtain ⟨zlb, zxb, zyb, zzb⟩ := id vb_4
  obtain ⟨zld, zxd, zyd, zzd⟩ := id vd_4
  obtain ⟨zlf, zxf, zyf, zzf⟩ := id vf_4
  obtain ⟨zlg, zxg, zyg, zzg⟩ := id vg_4
  go_wp2_with fail
  refine (two_any 6 _ _ _ _ _ _ _ (.inl (by omega))).mono ?_
  rintro e w5 ⟨ki, ni, ti, ei, gi, rfl, hb5⟩
  have Gi := Lib.hid gi; clear gi
  have va_5 : VAt w5 (w1.heap.size) ka na ta := VAt.on (by first | exact va_4 | exact va_4.up _ | exact (va_4.up _).up _ | exact ((va_4.up _).up _).up _ | exact VAt.mk (by first | assumption | (simp <;> omega)) (by go_simp) (by go_simp) (by go_simp)) hb5; clear va_4
  have vb_5 : VAt w5 (w1.heap.size + 1) 1 0 ⟨#[]⟩ := VAt.on (by first | exact vb_4 | exact vb_4.up _ | exact (vb_4.up _).up _ | exact ((vb_4.up _).up _).up _ | exact VAt.mk (by first | assumption | (simp <;> omega)) (by go_simp) (by go_simp) (by go_simp)) hb5; clear vb_4
  have vd_5 : VAt w5 (w1.heap.size + 1 + 1) 1 1 ⟨#[]⟩ := VAt.on (by first | exact vd_4 | exact vd_4.up _ | exact (vd_4.up _).up _ | exact ((vd_4.up _).up _).up _ | exact VAt.mk (by first | assumption | (simp <;> omega)) (by go_simp) (by go_simp) (by go_simp)) hb5; clear vd_4
  have vf_5 : VAt w5 (w2.heap.size) kf nf tf := VAt.on (by first | exact vf_4 | exact vf_4.up _ | exact (vf_4.up _).up _ | exact ((vf_4.up _).up _).up _ | exact VAt.mk (by first | assumption | (simp <;> omega)) (by go_simp) (by go_simp) (by go_simp)) hb5; clear vf_4
  have vg_5 : VAt w5 (w3.heap.size) kg ng tg := VAt.on (by first | exact vg_4 | exact vg_4.up _ | exact (vg_4.up _).up _ | exact ((vg_4.up _).up _).up _ | exact VAt.mk (by first | assumption | (simp <;> omega)) (by go_simp) (by go_simp) (by go_simp)) hb5; clear vg_4
  have vh_5 : VAt w5 (w4.heap.size) kh nh th := VAt.on (by first | exact VAt.newAt _ _ _ _ _ (by simp) | exact (VAt.newAt _ _ _ _ _ (by simp)).up _ | exact ((VAt.newAt _ _ _ _ _ (by simp)).up _).up _ | exact VAt.mk (by first | assumption | (simp <;> omega)) (by go_simp) (by go_simp) (by go_simp)) hb5
  clear zla zxa zya zza zlb zxb zyb zzb zld zxd zyd zzd zlf zxf zyf zzf zlg zxg zyg zzg
  obtain ⟨zla, zxa, zya, zza⟩ := id va_5
  obtain ⟨zlb, zxb, zyb, zzb⟩ := id vb_5
  obtain ⟨zld, zxd, zyd, zzd⟩ := id vd_5
  obtain ⟨zlf, zxf, zyf, zzf⟩ := id vf_5
  obtain ⟨zlg, zxg, zyg, zzg⟩ := id vg_5
  obtain ⟨zlh, zxh, zyh, zzh⟩ := id vh_5
  obtain ⟨f0, f1, f2, f3, f4, f5⟩ := plainLogicNull Ga.out Gf.out Gg.out Gh.out Gi.out
  rcases f5 with ⟨p0, p1, p2, p3, p4, p5, p6, p7⟩ | ⟨p0, p1, p2, p3, p4, p5, p6, p7⟩ | ⟨p0, p1, p2, p3, p4, p5, p6, p7⟩
  all_goals
    go_wp2_with fail
    go_quiet (fail)
    go_wp2_with fail
    go_quiet (fail)
    go_wp2_with fail
    go_ret
    refine ⟨rfl, ?_⟩
    repeat (first | exact Below.refl _ _ | refine ext_via ?_ (by assumption) | refine ext_al ?_ _ | refine ext_dr ?_ | refine ext_drN _ ?_ | refine ext_set ?_ (by first | omega | (simp <;> omega)) _)

end Go.Proofs.Ytiaeeahoipakcaa.Vl
