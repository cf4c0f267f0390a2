/-
  The walk of the law LogicTable.
-/
import Derived.Test.YtiaeeahoipakcaaVal4
namespace Go.Proofs.Ytiaeeahoipakcaa.Vl
open Go.RowKit Kit
set_option linter.unusedVariables false
set_option linter.unusedSimpArgs false

set_option maxHeartbeats 4000000 in
theorem plainLogicTable {x : Int} {y : Int} {ka na kb nb kc nc kd nd kf nf kg ng kh nh ki ni kj nj kl nl : Int} {ta tb tc td tf tg th ti tj tl : ByteArray} {ec : Int} {ed : Int} {ef : Int} {eg : Int} {eh : Int} {ei : Int} {ej : Int} {el : Int}
    (ga : truthF x = ⟨ka, na, ta⟩)
    (gb : truthF y = ⟨kb, nb, tb⟩)
    (gc : twoR 3 ⟨ka, na, ta⟩ ⟨kb, nb, tb⟩ = (⟨kc, nc, tc⟩, ec))
    (gd : twoR 3 ⟨kb, nb, tb⟩ ⟨ka, na, ta⟩ = (⟨kd, nd, td⟩, ed))
    (gf : oneR 5 ⟨ka, na, ta⟩ = (⟨kf, nf, tf⟩, ef))
    (gg : oneR 5 ⟨kb, nb, tb⟩ = (⟨kg, ng, tg⟩, eg))
    (gh : twoR 4 ⟨kf, nf, tf⟩ ⟨kg, ng, tg⟩ = (⟨kh, nh, th⟩, eh))
    (gi : oneR 5 ⟨kc, nc, tc⟩ = (⟨ki, ni, ti⟩, ei))
    (gj : oneR 5 ⟨kf, nf, tf⟩ = (⟨kj, nj, tj⟩, ej))
    (gl : twoR 4 ⟨ka, na, ta⟩ ⟨1, 1, ⟨#[]⟩⟩ = (⟨kl, nl, tl⟩, el))
    : (ec == 0) = true ∧ (ed == 0) = true ∧ (ef == 0) = true ∧ (eg == 0) = true ∧ (eh == 0) = true ∧ (ei == 0) = true ∧ (ej == 0) = true ∧ (el == 0) = true ∧ veqB kc nc tc kd nd td = true ∧ veqB kh nh th ki ni ti = true ∧ veqB kj nj tj ka na ta = true ∧ veqB kl nl tl 1 1 ⟨#[]⟩ = true := by
  have ha : IsT ⟨ka, na, ta⟩ := by rw [← ga]; exact truthF_isT _
  have hb : IsT ⟨kb, nb, tb⟩ := by rw [← gb]; exact truthF_isT _
  clear ga gb
  have nilB := nilBytes
  rcases ha with ha | ha | ha <;> rcases hb with hb | hb | hb
  all_goals
    obtain ⟨rfl, rfl, rfl⟩ := V.mk.inj ha
    obtain ⟨rfl, rfl, rfl⟩ := V.mk.inj hb
    simp [twoR, oneR, bothF, checkF, logicR, cmpR, cmpB, cmpF, truthV, b2i, V.nil, nilB, or3F, Lib.compareInt, Lib.compareBytes, @eq_comm Int _ kc, @eq_comm Int _ nc, @eq_comm ByteArray _ tc, @eq_comm Int _ ec] at gc
    obtain ⟨⟨rfl, rfl, rfl⟩, rfl⟩ := gc
    simp [twoR, oneR, bothF, checkF, logicR, cmpR, cmpB, cmpF, truthV, b2i, V.nil, nilB, or3F, Lib.compareInt, Lib.compareBytes, @eq_comm Int _ kd, @eq_comm Int _ nd, @eq_comm ByteArray _ td, @eq_comm Int _ ed] at gd
    obtain ⟨⟨rfl, rfl, rfl⟩, rfl⟩ := gd
    simp [twoR, oneR, bothF, checkF, logicR, cmpR, cmpB, cmpF, truthV, b2i, V.nil, nilB, or3F, Lib.compareInt, Lib.compareBytes, @eq_comm Int _ kf, @eq_comm Int _ nf, @eq_comm ByteArray _ tf, @eq_comm Int _ ef] at gf
    obtain ⟨⟨rfl, rfl, rfl⟩, rfl⟩ := gf
    simp [twoR, oneR, bothF, checkF, logicR, cmpR, cmpB, cmpF, truthV, b2i, V.nil, nilB, or3F, Lib.compareInt, Lib.compareBytes, @eq_comm Int _ kg, @eq_comm Int _ ng, @eq_comm ByteArray _ tg, @eq_comm Int _ eg] at gg
    obtain ⟨⟨rfl, rfl, rfl⟩, rfl⟩ := gg
    simp [twoR, oneR, bothF, checkF, logicR, cmpR, cmpB, cmpF, truthV, b2i, V.nil, nilB, or3F, Lib.compareInt, Lib.compareBytes, @eq_comm Int _ kh, @eq_comm Int _ nh, @eq_comm ByteArray _ th, @eq_comm Int _ eh] at gh
    obtain ⟨⟨rfl, rfl, rfl⟩, rfl⟩ := gh
    simp [twoR, oneR, bothF, checkF, logicR, cmpR, cmpB, cmpF, truthV, b2i, V.nil, nilB, or3F, Lib.compareInt, Lib.compareBytes, @eq_comm Int _ ki, @eq_comm Int _ ni, @eq_comm ByteArray _ ti, @eq_comm Int _ ei] at gi
    obtain ⟨⟨rfl, rfl, rfl⟩, rfl⟩ := gi
    simp [twoR, oneR, bothF, checkF, logicR, cmpR, cmpB, cmpF, truthV, b2i, V.nil, nilB, or3F, Lib.compareInt, Lib.compareBytes, @eq_comm Int _ kj, @eq_comm Int _ nj, @eq_comm ByteArray _ tj, @eq_comm Int _ ej] at gj
    obtain ⟨⟨rfl, rfl, rfl⟩, rfl⟩ := gj
    simp [twoR, oneR, bothF, checkF, logicR, cmpR, cmpB, cmpF, truthV, b2i, V.nil, nilB, or3F, Lib.compareInt, Lib.compareBytes, @eq_comm Int _ kl, @eq_comm Int _ nl, @eq_comm ByteArray _ tl, @eq_comm Int _ el] at gl
    obtain ⟨⟨rfl, rfl, rfl⟩, rfl⟩ := gl
    simp [veqB, nilB]

set_option maxHeartbeats 1000000 in
theorem walkLogicTable (x : Int) (wx : (Lit.int .i64 x).wf = true) (y : Int) (wy : (Lit.int .i64 y).wf = true) (w : World) :
    Calls Try.prog 10 #[.int .i64 x, .int .i64 y] w fun e w' => e = .returned (.bool true) ∧ Below w.heap.size w w' := by
  obtain ⟨x0, x1⟩ := wf_bd wx
  clear wx
  obtain ⟨y0, y1⟩ := wf_bd wy
  clear wy
  go_enter Try.func10, Try.ntmps10
  go_wp2_with fail
  refine (truth3_any _ _ x0 x1).mono ?_
  rintro e w1 ⟨ka, na, ta, ga, rfl, hb1⟩
  have Ga := Lib.hid ga; clear ga
  go_wp2_with fail
  refine (truth3_any _ _ y0 y1).mono ?_
  rintro e w2 ⟨kb, nb, tb, gb, rfl, hb2⟩
  have Gb := Lib.hid gb; clear gb
  have va_2 : VAt w2 (w1.heap.size) ka na ta := VAt.on (by first | exact VAt.newAt _ _ _ _ _ (by simp) | exact (VAt.newAt _ _ _ _ _ (by simp)).up _ | exact ((VAt.newAt _ _ _ _ _ (by simp)).up _).up _ | exact VAt.mk (by first | assumption | (simp <;> omega)) (by go_simp) (by go_simp) (by go_simp)) hb2
  obtain ⟨zla, zxa, zya, zza⟩ := id va_2
  go_wp2_with fail
  refine (two_any 3 _ _ _ _ _ _ _ (.inl (by omega))).mono ?_
  rintro e w3 ⟨kc, nc, tc, ec, gc, rfl, hb3⟩
  have Gc := Lib.hid gc; clear gc
  have va_3 : VAt w3 (w1.heap.size) ka na ta := VAt.on (by first | exact va_2 | exact va_2.up _ | exact (va_2.up _).up _ | exact ((va_2.up _).up _).up _ | exact VAt.mk (by first | assumption | (simp <;> omega)) (by go_simp) (by go_simp) (by go_simp)) hb3; clear va_2
  have vb_3 : VAt w3 (w2.heap.size) kb nb tb := VAt.on (by first | exact VAt.newAt _ _ _ _ _ (by simp) | exact (VAt.newAt _ _ _ _ _ (by simp)).up _ | exact ((VAt.newAt _ _ _ _ _ (by simp)).up _).up _ | exact VAt.mk (by first | assumption | (simp <;> omega)) (by go_simp) (by go_simp) (by go_simp)) hb3
  clear zla zxa zya zza
  obtain ⟨zla, zxa, zya, zza⟩ := id va_3
  obtain ⟨zlb, zxb, zyb, zzb⟩ := id vb_3
  go_wp2_with fail
  refine (two_any 3 _ _ _ _ _ _ _ (.inl (by omega))).mono ?_
  rintro e w4 ⟨kd, nd, td, ed, gd, rfl, hb4⟩
  have Gd := Lib.hid gd; clear gd
  have va_4 : VAt w4 (w1.heap.size) ka na ta := VAt.on (by first | exact va_3 | exact va_3.up _ | exact (va_3.up _).up _ | exact ((va_3.up _).up _).up _ | exact VAt.mk (by first | assumption | (simp <;> omega)) (by go_simp) (by go_simp) (by go_simp)) hb4; clear va_3
  have vb_4 : VAt w4 (w2.heap.size) kb nb tb := VAt.on (by first | exact vb_3 | exact vb_3.up _ | exact (vb_3.up _).up _ | exact ((vb_3.up _).up _).up _ | exact VAt.mk (by first | assumption | (simp <;> omega)) (by go_simp) (by go_simp) (by go_simp)) hb4; clear vb_3
  have vc_4 : VAt w4 (w3.heap.size) kc nc tc := VAt.on (by first | exact VAt.newAt _ _ _ _ _ (by simp) | exact (VAt.newAt _ _ _ _ _ (by simp)).up _ | exact ((VAt.newAt _ _ _ _ _ (by simp)).up _).up _ | exact VAt.mk (by first | assumption | (simp <;> omega)) (by go_simp) (by go_simp) (by go_simp)) hb4
  clear zla zxa zya zza zlb zxb zyb zzb
  obtain ⟨zla, zxa, zya, zza⟩ := id va_4
  obtain ⟨zlb, zxb, zyb, zzb⟩ := id vb_4
  obtain ⟨zlc, zxc, zyc, zzc⟩ := id vc_4
  go_wp2_with fail
  refine (one_any _ _ _ _ _).mono ?_
  rintro e w5 ⟨kf, nf, tf, ef, gf, rfl, hb5⟩
  have Gf := Lib.hid gf; clear gf
  have va_5 : VAt w5 (w1.heap.size) ka na ta := VAt.on (by first | exact va_4 | exact va_4.up _ | exact (va_4.up _).up _ | exact ((va_4.up _).up _).up _ | exact VAt.mk (by first | assumption | (simp <;> omega)) (by go_simp) (by go_simp) (by go_simp)) hb5; clear va_4
  have vb_5 : VAt w5 (w2.heap.size) kb nb tb := VAt.on (by first | exact vb_4 | exact vb_4.up _ | exact (vb_4.up _).up _ | exact ((vb_4.up _).up _).up _ | exact VAt.mk (by first | assumption | (simp <;> omega)) (by go_simp) (by go_simp) (by go_simp)) hb5; clear vb_4
  have vc_5 : VAt w5 (w3.heap.size) kc nc tc := VAt.on (by first | exact vc_4 | exact vc_4.up _ | exact (vc_4.up _).up _ | exact ((vc_4.up _).up _).up _ | exact VAt.mk (by first | assumption | (simp <;> omega)) (by go_simp) (by go_simp) (by go_simp)) hb5; clear vc_4
  have vd_5 : VAt w5 (w4.heap.size) kd nd td := VAt.on (by first | exact VAt.newAt _ _ _ _ _ (by simp) | exact (VAt.newAt _ _ _ _ _ (by simp)).up _ | exact ((VAt.newAt _ _ _ _ _ (by simp)).up _).up _ | exact VAt.mk (by first | assumption | (simp <;> omega)) (by go_simp) (by go_simp) (by go_simp)) hb5
  clear zla zxa zya zza zlb zxb zyb zzb zlc zxc zyc zzc
  obtain ⟨zla, zxa, zya, zza⟩ := id va_5
  obtain ⟨zlb, zxb, zyb, zzb⟩ := id vb_5
  obtain ⟨zlc, zxc, zyc, zzc⟩ := id vc_5
  obtain ⟨zld, zxd, zyd, zzd⟩ := id vd_5
  go_wp2_with fail
  refine (one_any _ _ _ _ _).mono ?_
  rintro e w6 ⟨kg, ng, tg, eg, gg, rfl, hb6⟩
  have Gg := Lib.hid gg; clear gg
  have va_6 : VAt w6 (w1.heap.size) ka na ta := VAt.on (by first | exact va_5 | exact va_5.up _ | exact (va_5.up _).up _ | exact ((va_5.up _).up _).up _ | exact VAt.mk (by first | assumption | (simp <;> omega)) (by go_simp) (by go_simp) (by go_simp)) hb6; clear va_5
  have vb_6 : VAt w6 (w2.heap.size) kb nb tb := VAt.on (by first | exact vb_5 | exact vb_5.up _ | exact (vb_5.up _).up _ | exact ((vb_5.up _).up _).up _ | exact VAt.mk (by first | assumption | (simp <;> omega)) (by go_simp) (by go_simp) (by go_simp)) hb6; clear vb_5
  have vc_6 : VAt w6 (w3.heap.size) kc nc tc := VAt.on (by first | exact vc_5 | exact vc_5.up _ | exact (vc_5.up _).up _ | exact ((vc_5.up _).up _).up _ | exact VAt.mk (by first | assumption | (simp <;> omega)) (by go_simp) (by go_simp) (by go_simp)) hb6; clear vc_5
  have vd_6 : VAt w6 (w4.heap.size) kd nd td := VAt.on (by first | exact vd_5 | exact vd_5.up _ | exact (vd_5.up _).up _ | exact ((vd_5.up _).up _).up _ | exact VAt.mk (by first | assumption | (simp <;> omega)) (by go_simp) (by go_simp) (by go_simp)) hb6; clear vd_5
  have vf_6 : VAt w6 (w5.heap.size) kf nf tf := VAt.on (by first | exact VAt.newAt _ _ _ _ _ (by simp) | exact (VAt.newAt _ _ _ _ _ (by simp)).up _ | exact ((VAt.newAt _ _ _ _ _ (by simp)).up _).up _ | exact VAt.mk (by first | assumption | (simp <;> omega)) (by go_simp) (by go_simp) (by go_simp)) hb6
  clear zla zxa zya zza zlb zxb zyb zzb zlc zxc zyc zzc zld zxd zyd zzd
  obtain ⟨zla, zxa, zya, zza⟩ := id va_6
  obtain ⟨zlb, zxb, zyb, zzb⟩ := id vb_6
  obtain ⟨zlc, zxc, zyc, zzc⟩ := id vc_6
  obtain ⟨zld, zxd, zyd, zzd⟩ := id vd_6
  obtain ⟨zlf, zxf, zyf, zzf⟩ := id vf_6
  go_wp2_with fail
  refine (two_any 4 _ _ _ _ _ _ _ (.inl (by omega))).mono ?_
  rintro e w7 ⟨kh, nh, th, eh, gh, rfl, hb7⟩
  have Gh := Lib.hid gh; clear gh
  have va_7 : VAt w7 (w1.heap.size) ka na ta := VAt.on (by first | exact va_6 | exact va_6.up _ | exact (va_6.up _).up _ | exact ((va_6.up _).up _).up _ | exact VAt.mk (by first | assumption | (simp <;> omega)) (by go_simp) (by go_simp) (by go_simp)) hb7; clear va_6
  have vb_7 : VAt w7 (w2.heap.size) kb nb tb := VAt.on (by first | exact vb_6 | exact vb_6.up _ | exact (vb_6.up _).up _ | exact ((vb_6.up _).up _).up _ | exact VAt.mk (by first | assumption | (simp <;> omega)) (by go_simp) (by go_simp) (by go_simp)) hb7; clear vb_6
  have vc_7 : VAt w7 (w3.heap.size) kc nc tc := VAt.on (by first | exact vc_6 | exact vc_6.up _ | exact (vc_6.up _).up _ | exact ((vc_6.up _).up _).up _ | exact VAt.mk (by first | assumption | (simp <;> omega)) (by go_simp) (by go_simp) (by go_simp)) hb7; clear vc_6
  have vd_7 : VAt w7 (w4.heap.size) kd nd td := VAt.on (by first | exact vd_6 | exact vd_6.up _ | exact (vd_6.up _).up _ | exact ((vd_6.up _).up _).up _ | exact VAt.mk (by first | assumption | (simp <;> omega)) (by go_simp) (by go_simp) (by go_simp)) hb7; clear vd_6
  have vf_7 : VAt w7 (w5.heap.size) kf nf tf := VAt.on (by first | exact vf_6 | exact vf_6.up _ | exact (vf_6.up _).up _ | exact ((vf_6.up _).up _).up _ | exact VAt.mk (by first | assumption | (simp <;> omega)) (by go_simp) (by go_simp) (by go_simp)) hb7; clear vf_6
  have vg_7 : VAt w7 (w6.heap.size) kg ng tg := VAt.on (by first | exact VAt.newAt _ _ _ _ _ (by simp) | exact (VAt.newAt _ _ _ _ _ (by simp)).up _ | exact ((VAt.newAt _ _ _ _ _ (by simp)).up _).up _ | exact VAt.mk (by first | assumption | (simp <;> omega)) (by go_simp) (by go_simp) (by go_simp)) hb7
  clear zla zxa zya zza zlb zxb zyb zzb zlc zxc zyc zzc zld zxd zyd zzd zlf zxf zyf zzf
  obtain ⟨zla, zxa, zya, zza⟩ := id va_7
  obtain ⟨zlb, zxb, zyb, zzb⟩ := id vb_7
  obtain ⟨zlc, zxc, zyc, zzc⟩ := id vc_7
  obtain ⟨zld, zxd, zyd, zzd⟩ := id vd_7
  obtain ⟨zlf, zxf, zyf, zzf⟩ := id vf_7
  obtain ⟨zlg, zxg, zyg, zzg⟩ := id vg_7
  go_wp2_with fail
  refine (one_any _ _ _ _ _).mono ?_
  rintro e w8 ⟨ki, ni, ti, ei, gi, rfl, hb8⟩
  have Gi := Lib.hid gi; clear gi
  have va_8 : VAt w8 (w1.heap.size) ka na ta := VAt.on (by first | exact va_7 | exact va_7.up _ | exact (va_7.up _).up _ | exact ((va_7.up _).up _).up _ | exact VAt.mk (by first | assumption | (simp <;> omega)) (by go_simp) (by go_simp) (by go_simp)) hb8; clear va_7
  have vb_8 : VAt w8 (w2.heap.size) kb nb tb := VAt.on (by first | exact vb_7 | exact vb_7.up _ | exact (vb_7.up _).up _ | exact ((vb_7.up _).up _).up _ | exact VAt.mk (by first | assumption | (simp <;> omega)) (by go_simp) (by go_simp) (by go_simp)) hb8; clear vb_7
  have vc_8 : VAt w8 (w3.heap.size) kc nc tc := VAt.on (by first | exact vc_7 | exact vc_7.up _ | exact (vc_7.up _).up _ | exact ((vc_7.up _).up _).up _ | exact VAt.mk (by first | assumption | (simp <;> omega)) (by go_simp) (by go_simp) (by go_simp)) hb8; clear vc_7
  have vd_8 : VAt w8 (w4.heap.size) kd nd td := VAt.on (by first | exact vd_7 | exact vd_7.up _ | exact (vd_7.up _).up _ | exact ((vd_7.up _).up _).up _ | exact VAt.mk (by first | assumption | (simp <;> omega)) (by go_simp) (by go_simp) (by go_simp)) hb8; clear vd_7
  have vf_8 : VAt w8 (w5.heap.size) kf nf tf := VAt.on (by first | exact vf_7 | exact vf_7.up _ | exact (vf_7.up _).up _ | exact ((vf_7.up _).up _).up _ | exact VAt.mk (by first | assumption | (simp <;> omega)) (by go_simp) (by go_simp) (by go_simp)) hb8; clear vf_7
  have vg_8 : VAt w8 (w6.heap.size) kg ng tg := VAt.on (by first | exact vg_7 | exact vg_7.up _ | exact (vg_7.up _).up _ | exact ((vg_7.up _).up _).up _ | exact VAt.mk (by first | assumption | (simp <;> omega)) (by go_simp) (by go_simp) (by go_simp)) hb8; clear vg_7
  have vh_8 : VAt w8 (w7.heap.size) kh nh th := VAt.on (by first | exact VAt.newAt _ _ _ _ _ (by simp) | exact (VAt.newAt _ _ _ _ _ (by simp)).up _ | exact ((VAt.newAt _ _ _ _ _ (by simp)).up _).up _ | exact VAt.mk (by first | assumption | (simp <;> omega)) (by go_simp) (by go_simp) (by go_simp)) hb8
  clear zla zxa zya zza zlb zxb zyb zzb zlc zxc zyc zzc zld zxd zyd zzd zlf zxf zyf zzf zlg zxg zyg zzg
  obtain ⟨zla, zxa, zya, zza⟩ := id va_8
  obtain ⟨zlb, zxb, zyb, zzb⟩ := id vb_8
  obtain ⟨zlc, zxc, zyc, zzc⟩ := id vc_8
  obtain ⟨zld, zxd, zyd, zzd⟩ := id vd_8
  obtain ⟨zlf, zxf, zyf, zzf⟩ := id vf_8
  obtain ⟨zlg, zxg, zyg, zzg⟩ := id vg_8
  obtain ⟨zlh, zxh, zyh, zzh⟩ := id vh_8
  go_wp2_with fail
  refine (one_any _ _ _ _ _).mono ?_
  rintro e w9 ⟨kj, nj, tj, ej, gj, rfl, hb9⟩
  have Gj := Lib.hid gj; clear gj
  have va_9 : VAt w9 (w1.heap.size) ka na ta := VAt.on (by first | exact va_8 | exact va_8.up _ | exact (va_8.up _).up _ | exact ((va_8.up _).up _).up _ | exact VAt.mk (by first | assumption | (simp <;> omega)) (by go_simp) (by go_simp) (by go_simp)) hb9; clear va_8
  have vb_9 : VAt w9 (w2.heap.size) kb nb tb := VAt.on (by first | exact vb_8 | exact vb_8.up _ | exact (vb_8.up _).up _ | exact ((vb_8.up _).up _).up _ | exact VAt.mk (by first | assumption | (simp <;> omega)) (by go_simp) (by go_simp) (by go_simp)) hb9; clear vb_8
  have vc_9 : VAt w9 (w3.heap.size) kc nc tc := VAt.on (by first | exact vc_8 | exact vc_8.up _ | exact (vc_8.up _).up _ | exact ((vc_8.up _).up _).up _ | exact VAt.mk (by first | assumption | (simp <;> omega)) (by go_simp) (by go_simp) (by go_simp)) hb9; clear vc_8
  have vd_9 : VAt w9 (w4.heap.size) kd nd td := VAt.on (by first | exact vd_8 | exact vd_8.up _ | exact (vd_8.up _).up _ | exact ((vd_8.up _).up _).up _ | exact VAt.mk (by first | assumption | (simp <;> omega)) (by go_simp) (by go_simp) (by go_simp)) hb9; clear vd_8
  have vf_9 : VAt w9 (w5.heap.size) kf nf tf := VAt.on (by first | exact vf_8 | exact vf_8.up _ | exact (vf_8.up _).up _ | exact ((vf_8.up _).up _).up _ | exact VAt.mk (by first | assumption | (simp <;> omega)) (by go_simp) (by go_simp) (by go_simp)) hb9; clear vf_8
  have vg_9 : VAt w9 (w6.heap.size) kg ng tg := VAt.on (by first | exact vg_8 | exact vg_8.up _ | exact (vg_8.up _).up _ | exact ((vg_8.up _).up _).up _ | exact VAt.mk (by first | assumption | (simp <;> omega)) (by go_simp) (by go_simp) (by go_simp)) hb9; clear vg_8
  have vh_9 : VAt w9 (w7.heap.size) kh nh th := VAt.on (by first | exact vh_8 | exact vh_8.up _ | exact (vh_8.up _).up _ | exact ((vh_8.up _).up _).up _ | exact VAt.mk (by first | assumption | (simp <;> omega)) (by go_simp) (by go_simp) (by go_simp)) hb9; clear vh_8
  have vi_9 : VAt w9 (w8.heap.size) ki ni ti := VAt.on (by first | exact VAt.newAt _ _ _ _ _ (by simp) | exact (VAt.newAt _ _ _ _ _ (by simp)).up _ | exact ((VAt.newAt _ _ _ _ _ (by simp)).up _).up _ | exact VAt.mk (by first | assumption | (simp <;> omega)) (by go_simp) (by go_simp) (by go_simp)) hb9
  clear zla zxa zya zza zlb zxb zyb zzb zlc zxc zyc zzc zld zxd zyd zzd zlf zxf zyf zzf zlg zxg zyg zzg zlh zxh zyh zzh
  obtain ⟨zla, zxa, zya, zza⟩ := id va_9
  obtain ⟨zlb, zxb, zyb, zzb⟩ := id vb_9
  obtain ⟨zlc, zxc, zyc, zzc⟩ := id vc_9
  obtain ⟨zld, zxd, zyd, zzd⟩ := id vd_9
  obtain ⟨zlf, zxf, zyf, zzf⟩ := id vf_9
  obtain ⟨zlg, zxg, zyg, zzg⟩ := id vg_9
  obtain ⟨zlh, zxh, zyh, zzh⟩ := id vh_9
  obtain ⟨zli, zxi, zyi, zzi⟩ := id vi_9
  go_wp2_with fail
  refine (two_any 4 _ _ _ _ _ _ _ (.inl (by omega))).mono ?_
  rintro e w10 ⟨kl, nl, tl, el, gl, rfl, hb10⟩
  have Gl := Lib.hid gl; clear gl
  have va_10 : VAt w10 (w1.heap.size) ka na ta := VAt.on (by first | exact va_9 | exact va_9.up _ | exact (va_9.up _).up _ | exact ((va_9.up _).up _).up _ | exact VAt.mk (by first | assumption | (simp <;> omega)) (by go_simp) (by go_simp) (by go_simp)) hb10; clear va_9
  have vb_10 : VAt w10 (w2.heap.size) kb nb tb := VAt.on (by first | exact vb_9 | exact vb_9.up _ | exact (vb_9.up _).up _ | exact ((vb_9.up _).up _).up _ | exact VAt.mk (by first | assumption | (simp <;> omega)) (by go_simp) (by go_simp) (by go_simp)) hb10; clear vb_9
  have vc_10 : VAt w10 (w3.heap.size) kc nc tc := VAt.on (by first | exact vc_9 | exact vc_9.up _ | exact (vc_9.up _).up _ | exact ((vc_9.up _).up _).up _ | exact VAt.mk (by first | assumption | (simp <;> omega)) (by go_simp) (by go_simp) (by go_simp)) hb10; clear vc_9
  have vd_10 : VAt w10 (w4.heap.size) kd nd td := VAt.on (by first | exact vd_9 | exact vd_9.up _ | exact (vd_9.up _).up _ | exact ((vd_9.up _).up _).up _ | exact VAt.mk (by first | assumption | (simp <;> omega)) (by go_simp) (by go_simp) (by go_simp)) hb10; clear vd_9
  have vf_10 : VAt w10 (w5.heap.size) kf nf tf := VAt.on (by first | exact vf_9 | exact vf_9.up _ | exact (vf_9.up _).up _ | exact ((vf_9.up _).up _).up _ | exact VAt.mk (by first | assumption | (simp <;> omega)) (by go_simp) (by go_simp) (by go_simp)) hb10; clear vf_9
  have vg_10 : VAt w10 (w6.heap.size) kg ng tg := VAt.on (by first | exact vg_9 | exact vg_9.up _ | exact (vg_9.up _).up _ | exact ((vg_9.up _).up _).up _ | exact VAt.mk (by first | assumption | (simp <;> omega)) (by go_simp) (by go_simp) (by go_simp)) hb10; clear vg_9
  have vh_10 : VAt w10 (w7.heap.size) kh nh th := VAt.on (by first | exact vh_9 | exact vh_9.up _ | exact (vh_9.up _).up _ | exact ((vh_9.up _).up _).up _ | exact VAt.mk (by first | assumption | (simp <;> omega)) (by go_simp) (by go_simp) (by go_simp)) hb10; clear vh_9
  have vi_10 : VAt w10 (w8.heap.size) ki ni ti := VAt.on (by first | exact vi_9 | exact vi_9.up _ | exact (vi_9.up _).up _ | exact ((vi_9.up _).up _).up _ | exact VAt.mk (by first | assumption | (simp <;> omega)) (by go_simp) (by go_simp) (by go_simp)) hb10; clear vi_9
  have vj_10 : VAt w10 (w9.heap.size) kj nj tj := VAt.on (by first | exact VAt.newAt _ _ _ _ _ (by simp) | exact (VAt.newAt _ _ _ _ _ (by simp)).up _ | exact ((VAt.newAt _ _ _ _ _ (by simp)).up _).up _ | exact VAt.mk (by first | assumption | (simp <;> omega)) (by go_simp) (by go_simp) (by go_simp)) hb10
  clear zla zxa zya zza zlb zxb zyb zzb zlc zxc zyc zzc zld zxd zyd zzd zlf zxf zyf zzf zlg zxg zyg zzg zlh zxh zyh zzh zli zxi zyi zzi
  obtain ⟨zla, zxa, zya, zza⟩ := id va_10
  obtain ⟨zlb, zxb, zyb, zzb⟩ := id vb_10
  obtain ⟨zlc, zxc, zyc, zzc⟩ := id vc_10
  obtain ⟨zld, zxd, zyd, zzd⟩ := id vd_10
  obtain ⟨zlf, zxf, zyf, zzf⟩ := id vf_10
  obtain ⟨zlg, zxg, zyg, zzg⟩ := id vg_10
  obtain ⟨zlh, zxh, zyh, zzh⟩ := id vh_10
  obtain ⟨zli, zxi, zyi, zzi⟩ := id vi_10
  obtain ⟨zlj, zxj, zyj, zzj⟩ := id vj_10
  obtain ⟨f0, f1, f2, f3, f4, f5, f6, f7, f8, f9, f10, f11⟩ := plainLogicTable Ga.out Gb.out Gc.out Gd.out Gf.out Gg.out Gh.out Gi.out Gj.out Gl.out
  go_wp2_with fail
  go_ret
  refine ⟨rfl, ?_⟩
  repeat (first | exact Below.refl _ _ | refine ext_via ?_ (by assumption) | refine ext_al ?_ _ | refine ext_dr ?_ | refine ext_drN _ ?_ | refine ext_set ?_ (by first | omega | (simp <;> omega)) _)

end Go.Proofs.Ytiaeeahoipakcaa.Vl
