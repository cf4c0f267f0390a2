/-
  What the proof of GA leans on, part 1: walks of the program's functions at the level of values, and plain facts of what they compute.
-/
import Derived.WalkKit
import Derived.Deep.MidRow
import Derived.Deep.AppendLies
import Derived.OrdersHeld
import Derived.IntWalk
import Derived.Laws.Cover3
import Derived.ChangeKeysEq
import Derived.ProofKit
import Derived.OpenShut
import Derived.Lib.LaidTab
import Derived.Below
import Derived.Deep.Slices
import Derived.ArgAppend
import Derived.Lib.AppendStr
import Derived.MapKept
import Derived.RangeFuncLeaves
import Derived.RangeFuncOwn
import Derived.OrdersIn
import Derived.TacticsIn
import Derived.Shelf.Abstract
import Derived.RecoverIn
import Derived.WalkLawsBesides
import Derived.Lib.AppendZeros
import Derived.Laws.IdiomCopy
import Derived.Lib.Overlaps
import Derived.Lib.AppendZerosOnto
import Derived.Lib.BytesEntry
import Derived.Shelf.Strings.Builder1
import Derived.Shelf.Strings.Builder2
import Derived.Shelf.Small.Strs
import Derived.Shelf.Small.Wraps
import Derived.Shelf.Strings.BuilderF
import Derived.Shelf.Strings.BuilderK
import Derived.Shelf.Utf8.RuneCount
import Derived.Shelf.Strings.Builder2Cap
import Derived.Shelf.Strings.Search1
import Derived.Shelf.Strings.Search2
import Derived.Shelf.Strings.Search3
import Derived.Shelf.Strings.Count
import Derived.Shelf.LaysM
import Derived.Shelf.Strings.Shaped
import Derived.Shelf.Strings.Split
import Derived.Shelf.Strings.Replace
import Derived.Shelf.Strings.SplitShaped
import Derived.Shelf.Unicode.Decode
import Derived.Shelf.Strings.RuneCount
import Derived.Shelf.Unicode.DecodeSlow
import Derived.Shelf.Unicode.DecodeAny
import Derived.Shelf.Strings.BuilderCap
import Derived.Shelf.Slices.Turned
import Derived.Shelf.Slices.Reverse
import Derived.Ground.Names2Prog
import Derived.Shelf.Slices.Clone
import Derived.Shelf.Slices.SearchI
import Derived.Shelf.Slices.Delete
import Derived.Shelf.Slices.Cells
import Derived.Shelf.Slices.Empties
import Derived.Shelf.Bytes.SlSearch0
import Derived.Ground.SlgnProg
import Derived.Shelf.SlicesE.Clone
import Derived.Shelf.Bytes.SlEqualAll
import Derived.Shelf.Bytes.Small
import Derived.SizedLaws
import Derived.Lib.Bytealg
import Derived.Test.YtkgmonfgofobaaaGreatDoorRows
import Derived.Test.YtkgmonfgofobaaaGreatDoorProg
set_option linter.unusedVariables false
set_option linter.unusedSimpArgs false
set_option maxRecDepth 100000
set_option maxHeartbeats 4000000
namespace Go.Proofs.YtkgmonfgofobaaaGreatDoor
open List
variable {p:Prop}
theorem w4(h:p:=by omega):p:=h
theorem w5(h:p:=by first|assumption|omega):p:=h
theorem w6(h:p:=by (repeat (first|exact fP|(apply gi;focus (first|rfl|(simp;done)|(congr 2;omega)|(apply eP;rw[←QC aa];unfold nD;first|(rw[Gt (by assumption)];simp;done)|(rw[Gu (by assumption),take_of_length_le (l:=lM (uN l[i])) (by rw[xu];omega)];simp;done)|(rw[Gw (by assumption),←BO];simp;done)|(rw[VO (by assumption) (by assumption) (by assumption)];done))|(apply eP;rfl)|(apply eP;simp;done)))|(apply fU;focus rfl)));done):p:=h
theorem w7(h:p:=by decide):p:=h
theorem w8(h:p:=by (repeat (first|exact fP|(apply gi;focus (first|rfl|(rw[uE];done)|(simp;done)))|(apply fU;focus rfl)));done):p:=h
theorem w9(h:p:=by simp only[length_append,length_map,length_cons,length_nil];omega):p:=h
theorem vY(h:p:=by have c8:=dV;have q1:=FN Nt i;(try have q2:=Nt _ (getElem_mem aa));(try simp only[length_append,length_cons,length_nil]);omega):p:=h
theorem qk(h:p:=by simp only[maxLen,length_append,length_map,length_cons,length_nil];omega):p:=h
theorem nH(h:p:=by simp only[maxLen,length_cons,length_nil] at *;omega):p:=h
theorem Hy(h:p:=by rw[←QC aa];unfold nD;first|(rw[Gt (by assumption)];simp;done)|(rw[Gu (by assumption),take_of_length_le (l:=lM (uN l[i])) (by rw[xu];omega)];simp;done)|(rw[Gw (by assumption),←BO];simp;done)|(rw[VO (by assumption) (by assumption) (by assumption)];done)):p:=h
theorem nI(h:p:=by simp only[length_cons,length_nil] at *;omega):p:=h
theorem vZ(h:p:=by show _=p.kids.drop (if p.leaf=true then 2 else 3);rw[fA];rfl):p:=h
theorem v7(h:p:=by show _=p.keys.drop (if p.leaf=true then 2 else 3);rw[fA];rfl):p:=h
theorem bj(h:p:=by simp):p:=h
theorem jC(h:p:=by first|rfl|assumption):p:=h
theorem AK(h:p:=by have c8:=dV;(try simp only[length_append,length_cons,length_nil,length_take,xu]);omega):p:=h
theorem Hz(h:p:=by (repeat (first|exact fP|(apply gi;focus (first|rfl|(simp;done)|(congr 2;omega)|(apply eP;rfl)|(apply eP;simp;done)))|(apply fU;focus rfl)));done):p:=h
theorem AL(h:p:=by simp only[flatten_cons,flatten_nil,length_append,length_cons,length_nil];omega):p:=h
theorem AM(h:p:=by have c8:=dV;(try simp only[length_append,length_cons,length_nil]);omega):p:=h
theorem nh(h:p:=by first|rfl|simp[St.put]):p:=h
theorem lq(h:p:=by rw[vB];decide):p:=h
theorem lu(h:p:=by first|rfl|simp):p:=h
theorem iB(h:p:=by simp;omega):p:=h
theorem pA(h:p:=by rw[length_take];omega):p:=h
theorem tv(h:p:=by rw[qd,jv,append_assoc];rfl):p:=h
theorem ni(h:p:=by rw[pV];omega):p:=h
theorem Nu(h:p:=by have:=Fp s.names s.names.length;(try rw[uF]);simp only[length_append,length_map,length_cons,length_nil];omega):p:=h
theorem pB(h:p:=by rw[append_nil]):p:=h
theorem HA(h:p:=by simp only[maxLen,length_append,length_cons,length_nil] at *;omega):p:=h
theorem tw(h:p:=by rw[y2,qd,jv];simp):p:=h
theorem AN(h:p:=by show(-1:Int)≤9223372036854775807;decide):p:=h
theorem Dw(h:p:=by first|rfl|(show(1:Int)+_=1+_;omega)|omega):p:=h
theorem v8(h:p:=by rw[length_append];omega):p:=h
theorem Dx(h:p:=by rw[length_append,length_singleton];omega):p:=h
theorem HB(h:p:=by show _=p.kids.take (if p.leaf=true then 2 else 3);rw[fA];rfl):p:=h
theorem HC(h:p:=by show 0+_*1+1≤_;rw[cz eM,length_set];omega):p:=h
theorem wc(h:p:=by rw[length_set];omega):p:=h
theorem yc(h:p:=by rw[length_set];exact gp):p:=h
theorem rW(h:p:=by rw[VQ];decide):p:=h
theorem yd(h:p:=by rw[length_set];exact hj):p:=h
theorem uG(h:p:=by first|exact nR rfl gw (fun h=>by cases h) runUnderlying144 sizeOf90 w4|exact nx (fun _=>rfl) runUnderlying144 sizeOf90 w4|exact zw (fun h=>by cases h) (fun _=>rfl) runUnderlying144 sizeOf90 w4 w4|exact mO (fun h=>by cases h) (fun _=>rfl) runUnderlying144 sizeOf90 w4 w4):p:=h
theorem uH(h:p:=by first|exact nR rfl eM (fun h=>by cases h) runUnderlying70 sizeOf3 w4|exact nx (fun _=>rfl) runUnderlying70 sizeOf3 w4|exact zw (fun h=>by cases h) (fun _=>rfl) runUnderlying70 sizeOf3 w4 w4|exact mO (fun h=>by cases h) (fun _=>rfl) runUnderlying70 sizeOf3 w4 w4):p:=h
theorem AO(h:p:=by first|exact nR rfl gw (fun h=>by cases h) runUnderlying70 sizeOf3 w4|exact nR rfl eM (fun h=>by cases h) runUnderlying70 sizeOf3 w4|exact nx (fun _=>rfl) runUnderlying70 sizeOf3 w4|exact mO (fun h=>by cases h) (fun _=>rfl) runUnderlying70 sizeOf3 w4 w4):p:=h
theorem HD(h:p:=by first|exact nR rfl gw (fun h=>by cases h) runUnderlying144 sizeOf90 w4|exact nR rfl eM (fun h=>by cases h) runUnderlying144 sizeOf90 w4|exact nx (fun _=>rfl) runUnderlying144 sizeOf90 w4|exact mO (fun h=>by cases h) (fun _=>rfl) runUnderlying144 sizeOf90 w4 w4):p:=h
theorem HE(h:p:=by first|exact nS mu (fun h=>by cases h) runUnderlying36 sizeOf35 w4|exact nx (fun h=>by cases h) runUnderlying36 sizeOf35 w4|exact mO (fun _=>rfl) (fun h=>by cases h) runUnderlying36 sizeOf35 w4 w4):p:=h
theorem Nv(h:p:=by first|exact nS gw (fun h=>by cases h) runUnderlying144 sizeOf90 w4|exact nx (fun h=>by cases h) runUnderlying144 sizeOf90 w4|exact zw (fun _=>rfl) (fun h=>by cases h) runUnderlying144 sizeOf90 w4 w4|exact mO (fun _=>rfl) (fun h=>by cases h) runUnderlying144 sizeOf90 w4 w4):p:=h
theorem Nw(h:p:=by first|exact nS eM (fun h=>by cases h) runUnderlying70 sizeOf3 w4|exact nx (fun h=>by cases h) runUnderlying70 sizeOf3 w4|exact zw (fun _=>rfl) (fun h=>by cases h) runUnderlying70 sizeOf3 w4 w4|exact mO (fun _=>rfl) (fun h=>by cases h) runUnderlying70 sizeOf3 w4 w4):p:=h
theorem Nx(h:p:=by first|exact nS jJ (fun h=>by cases h) runUnderlying44 sizeOf9 w4|exact nS lV (fun h=>by cases h) runUnderlying44 sizeOf9 w4|exact nx (fun h=>by cases h) runUnderlying44 sizeOf9 w4|exact mO (fun _=>rfl) (fun h=>by cases h) runUnderlying44 sizeOf9 w4 w4):p:=h
theorem Ny(h:p:=by (repeat (first|exact fP|(apply gi;focus (first|rfl|(simp;done)|(congr 2;omega)|(apply eP;first|exact I2 aa w4 _|exact IR aa w4 _)|(apply eP;simp[j7])|(apply eP;simp;done)))|(apply fU;focus rfl)));done):p:=h
theorem q8(h:p:=by rw[←Int.ofNat_sub w4];exact wrap_i64 w4 w4):p:=h
theorem AP(h:p:=by rw[←Int.natCast_add];exact wrap_i64 w4 w4):p:=h
theorem Nz(h:p:=by rw[←show(p.kids.drop 3)=(cu p).kids from vZ];simp only[length_take,length_drop];omega):p:=h
theorem NA(h:p:=by rw[←show(p.kids.drop 2)=(cu p).kids from vZ];simp only[length_take,length_drop];omega):p:=h
theorem NB(h:p:=by rw[←show(p.keys.drop 3)=(cu p).keys from v7];simp only[length_take,length_drop];omega):p:=h
theorem NC(h:p:=by rw[←show(p.keys.drop 2)=(cu p).keys from v7];simp only[length_take,length_drop];omega):p:=h
theorem ND(h:p:=by rw[show(((a+(t+1):Nat):Int)-1)=((a+t:Nat):Int) by omega];exact wrap_i64 w4 w4):p:=h
theorem pC(h:p:=by simpa using h):p:=h
theorem rX(h:p:=by rw[←ho];rfl):p:=h
theorem we(h:p:=by rw[←ye];exact gp):p:=h
theorem NE(h:p:=by rw[show((j:Int)-1)=((j-1:Nat):Int) by omega];exact wrap_i64 w4 w4):p:=h
theorem yf(h:p:=by rw[g.ay];exact ae2):p:=h
theorem NF(h:p:=by exact jk (k:=2) (i:=(eR H l[i])) gw rfl rfl rfl isAgg110 gH rfl):p:=h
theorem NG(h:p:=by exact jk (k:=1) (i:=(eR H l[i])) gw rfl rfl rfl isAgg110 gH rfl):p:=h
theorem NH(h:p:=by exact jk (k:=0) (i:=(eR H l[i])) gw rfl rfl rfl isAgg110 gH rfl):p:=h
theorem HF(h:p:=by show 0+_*1+1≤_;rw[cz eM];omega):p:=h
theorem uI(h:p:=by simp at aL;omega):p:=h
theorem NI(h:p:=by unfold dW;rw[if_neg cR,if_neg eA,if_neg fH,if_pos gW,tD]):p:=h
theorem wg(h:p:=by simp[maxLen];omega):p:=h
theorem NJ(h:p:=by rw[length_zipWith,length_map,length_map,hl];omega):p:=h
theorem NK(h:p:=by rw[eB];exact mem_flatMap.2 ⟨_,getElem_mem d1,hx⟩):p:=h
theorem uJ(h:p:=by rw[fK];decide):p:=h
theorem NL(h:p:=by first|exact fun _ hq=>hq|exact fun _ hq=>by cases hq.1):p:=h
theorem uK(h:p:=by simpa using hl):p:=h
theorem yg(h:p:=by rw[g.ay];decide):p:=h
theorem tE(h:p:=by rw[y1];rfl):p:=h
theorem Dy(h:p:=by rw[length_drop];omega):p:=h
theorem AR(h:p:=by first|omega|decide):p:=h
theorem wi(h:p:=by simpa using aY):p:=h
theorem HG(h:p:=by rw[length_append];simp;omega):p:=h
theorem AS(h:p:=by simpa[ax] using dJ):p:=h
theorem AT(h:p:=by show 1≤10;decide):p:=h
theorem AU(h:p:=by simpa[ax] using hj):p:=h
theorem AV(h:p:=by rw[Ki];decide):p:=h
theorem NM(h:p:=by show _≤1000;exact Nat.le_of_ble_eq_true rfl):p:=h
theorem yh(h:p:=by simpa using aL):p:=h
theorem yj(h:p:=by rw[h4];decide):p:=h
theorem HH(h:p:=by rw[length_set];exact Dz):p:=h
theorem AW(h:p:=by exact fun _=>rfl):p:=h
theorem NN(h:p:=by show w.heap.size<(w.heap.push _).size;simp):p:=h
theorem NQ(h:p:=by show(w.heap.push _)[w.heap.size]?=_;simp):p:=h
theorem yl(h:p:=by decide +kernel):p:=h
theorem NR(h:p:=by rw[cz vt,length_take];omega):p:=h
theorem uL(h:p:=by assumption):p:=h
theorem HI(h:p:=by rw[length_map];omega):p:=h
theorem HJ(h:p:=by simp only[maxLen];omega):p:=h
theorem HK(h:p:=by show i<cs.length;omega):p:=h
theorem z4(h:p:=by
  refine AD.one (i:=17) aC ?_;refine bD.call rfl ap rfl rfl rfl call152 (Qd p.kids (aN (t.pg (aI t k h t.root)) k) ci bi ql fL HL w4) ⟨ot,ot,ot,trivial⟩ (mN (k:=5) rfl) iP ?_;rintro _ _ ⟨rfl,rfl⟩;refine AD.perm (perm_middle (l₁:=[_,_,_,_,_])).symm ?_;refine dj 18 rfl qm ?_;refine dj 19 rfl (dX 1) ?_;refine AD.one (i:=20) aC ?_;refine bD.storeAt (k:=3) (cs':=flatMap gO (L.set (aI t k h t.root).toNat (⟨{p with keys:=(p.keys.eraseIdx (aN (t.pg (aI t k h t.root)) k))},some ⟨bk,0,none⟩,ck,[⟨bk,90,ck*1,flatMap cK (p.keys.eraseIdx (aN (t.pg (aI t k h t.root)) k))⟩],some ⟨bi,0,none⟩,ci,[⟨bi,3,ci*1,flatMap cI p.kids⟩]⟩:aX))) rfl ap rfl rfl ot rfl rfl ot rfl rfl sizeOf144 rfl (by show 0+(aI t k h t.root).toNat*5+1+1≤(flatMap gO L).length;rw[cz iz];omega) (by show(L.flatMap gO).set (0+(aI t k h t.root).toNat*5+1) _=_;rw[Nat.zero_add];exact wL iz w7 hj (by rw[←ho];show gO (⟨{p with keys:=(p.keys.eraseIdx (aN (t.pg (aI t k h t.root)) k))},some ⟨bk,0,none⟩,ck,[⟨bk,90,ck*1,flatMap cK (p.keys.eraseIdx (aN (t.pg (aI t k h t.root)) k))⟩],some ⟨bi,0,none⟩,ci,[⟨bi,3,ci*1,flatMap cI p.kids⟩]⟩:aX)=(gO (⟨p,some ⟨bk,0,none⟩,ck,[⟨bk,90,ck*1,flatMap cK p.keys⟩],some ⟨bi,0,none⟩,ci,[⟨bi,3,ci*1,flatMap cI p.kids⟩]⟩:aX)).set 1 _;unfold gO;rw[length_eraseIdx_of_lt ha];rfl)) iP ?_;refine fB ?_;refine aH 2 ?_
  refine OD.storeAt (k:=3) (cs':=flatMap gO (L.set (aI t k h t.root).toNat (⟨(kO p (aN (t.pg (aI t k h t.root)) k)),some ⟨bk,0,none⟩,ck,[⟨bk,90,ck*1,flatMap cK (p.keys.eraseIdx (aN (t.pg (aI t k h t.root)) k))⟩],some ⟨bi,0,none⟩,ci,[⟨bi,3,ci*1,flatMap cI (p.kids.eraseIdx (aN (t.pg (aI t k h t.root)) k))⟩]⟩:aX))) ap rfl rfl ot rfl rfl ot rfl rfl sizeOf70 rfl (by show 0+(aI t k h t.root).toNat*5+2+1≤(flatMap gO (L.set (aI t k h t.root).toNat (⟨{p with keys:=(p.keys.eraseIdx (aN (t.pg (aI t k h t.root)) k))},some ⟨bk,0,none⟩,ck,[⟨bk,90,ck*1,flatMap cK (p.keys.eraseIdx (aN (t.pg (aI t k h t.root)) k))⟩],some ⟨bi,0,none⟩,ci,[⟨bi,3,ci*1,flatMap cI p.kids⟩]⟩:aX))).length;rw[cz iz,length_set];omega) (by show(flatMap gO (L.set (aI t k h t.root).toNat (⟨{p with keys:=(p.keys.eraseIdx (aN (t.pg (aI t k h t.root)) k))},some ⟨bk,0,none⟩,ck,[⟨bk,90,ck*1,flatMap cK (p.keys.eraseIdx (aN (t.pg (aI t k h t.root)) k))⟩],some ⟨bi,0,none⟩,ci,[⟨bi,3,ci*1,flatMap cI p.kids⟩]⟩:aX))).set (0+(aI t k h t.root).toNat*5+2) _=_;rw[Nat.zero_add,wL iz (a':=(⟨(kO p (aN (t.pg (aI t k h t.root)) k)),some ⟨bk,0,none⟩,ck,[⟨bk,90,ck*1,flatMap cK (p.keys.eraseIdx (aN (t.pg (aI t k h t.root)) k))⟩],some ⟨bi,0,none⟩,ci,[⟨bi,3,ci*1,flatMap cI (p.kids.eraseIdx (aN (t.pg (aI t k h t.root)) k))⟩]⟩:aX)) w7 yd (by rw[getElem_set_self];show gO (⟨(kO p (aN (t.pg (aI t k h t.root)) k)),some ⟨bk,0,none⟩,ck,[⟨bk,90,ck*1,flatMap cK (p.keys.eraseIdx (aN (t.pg (aI t k h t.root)) k))⟩],some ⟨bi,0,none⟩,ci,[⟨bi,3,ci*1,flatMap cI (p.kids.eraseIdx (aN (t.pg (aI t k h t.root)) k))⟩]⟩:aX)=(gO (⟨{p with keys:=(p.keys.eraseIdx (aN (t.pg (aI t k h t.root)) k))},some ⟨bk,0,none⟩,ck,[⟨bk,90,ck*1,flatMap cK (p.keys.eraseIdx (aN (t.pg (aI t k h t.root)) k))⟩],some ⟨bi,0,none⟩,ci,[⟨bi,3,ci*1,flatMap cI p.kids⟩]⟩:aX)).set 2 _;unfold gO kO;simp only[];rw[length_eraseIdx_of_lt ql];rfl),set_set]) ?_
  have wj:(⟨bk,90,ck*1,flatMap cK (p.keys.eraseIdx (aN (t.pg (aI t k h t.root)) k))⟩::⟨bi,3,ci*1,flatMap cI (p.kids.eraseIdx (aN (t.pg (aI t k h t.root)) k))⟩::((L.eraseIdx (aI t k h t.root).toNat).flatMap bO)).Perm ((L.set (aI t k h t.root).toNat (⟨(kO p (aN (t.pg (aI t k h t.root)) k)),some ⟨bk,0,none⟩,ck,[⟨bk,90,ck*1,flatMap cK (p.keys.eraseIdx (aN (t.pg (aI t k h t.root)) k))⟩],some ⟨bi,0,none⟩,ci,[⟨bi,3,ci*1,flatMap cI (p.kids.eraseIdx (aN (t.pg (aI t k h t.root)) k))⟩]⟩:aX)).flatMap bO):=(zi bO hj (⟨(kO p (aN (t.pg (aI t k h t.root)) k)),some ⟨bk,0,none⟩,ck,[⟨bk,90,ck*1,flatMap cK (p.keys.eraseIdx (aN (t.pg (aI t k h t.root)) k))⟩],some ⟨bi,0,none⟩,ci,[⟨bi,3,ci*1,flatMap cI (p.kids.eraseIdx (aN (t.pg (aI t k h t.root)) k))⟩]⟩:aX)).symm;refine OD.perm (Perm.cons _ (Perm.cons _ (Perm.cons _ (Perm.cons _ wj)))) ?_;refine an 58 [4,7] ?_;refine aB 1 ?_;refine aO 1 [_,_] sizeOf75 ?_;refine an 58 [4,5] ?_
  refine aM ([⟨bx,146,cap*5,flatMap gO (L.set (aI t k h t.root).toNat (⟨(kO p (aN (t.pg (aI t k h t.root)) k)),some ⟨bk,0,none⟩,ck,[⟨bk,90,ck*1,flatMap cK (p.keys.eraseIdx (aN (t.pg (aI t k h t.root)) k))⟩],some ⟨bi,0,none⟩,ci,[⟨bi,3,ci*1,flatMap cI (p.kids.eraseIdx (aN (t.pg (aI t k h t.root)) k))⟩]⟩:aX))⟩]++(L.set (aI t k h t.root).toNat (⟨(kO p (aN (t.pg (aI t k h t.root)) k)),some ⟨bk,0,none⟩,ck,[⟨bk,90,ck*1,flatMap cK (p.keys.eraseIdx (aN (t.pg (aI t k h t.root)) k))⟩],some ⟨bi,0,none⟩,ci,[⟨bi,3,ci*1,flatMap cI (p.kids.eraseIdx (aN (t.pg (aI t k h t.root)) k))⟩]⟩:aX)).flatMap bO) ?_;unfold rN;rw[if_pos hz,if_pos fK];refine⟨_,rfl,L.set (aI t k h t.root).toNat (⟨(kO p (aN (t.pg (aI t k h t.root)) k)),some ⟨bk,0,none⟩,ck,[⟨bk,90,ck*1,flatMap cK (p.keys.eraseIdx (aN (t.pg (aI t k h t.root)) k))⟩],some ⟨bi,0,none⟩,ci,[⟨bi,3,ci*1,flatMap cI (p.kids.eraseIdx (aN (t.pg (aI t k h t.root)) k))⟩]⟩:aX),some ⟨bx,0,none⟩,cap,_,by rw[length_set];rfl,bQ yc ym,fun x hx=>?_,?_,rfl⟩
  ·rcases mem_or_eq_of_mem_set hx with hx|rfl
   ·exact aT x hx
   exact⟨bQ (by show(p.keys.eraseIdx (aN (t.pg (aI t k h t.root)) k)).length≤ck;rw[length_eraseIdx_of_lt ha];omega) yn,bQ (by show(p.kids.eraseIdx (aN (t.pg (aI t k h t.root)) k)).length≤ci;rw[length_eraseIdx_of_lt ql];omega) HL⟩
  rw[map_set,hL];show _=t.ag.set (aI t k h t.root).toNat (kO (t.pg (aI t k h t.root)) (aN (t.pg (aI t k h t.root)) k));rw[←ir]):p:=h
theorem z5(h:p:=by
  refine AD.one (i:=15) aC ?_;refine bD.eL (ls:=L) (new:=[(⟨(t.ag[i]'aa),iQ,iR,Sy,mc,me,Sz⟩:aX)]) (Sq:=Sx) iz Ga rfl ap rfl rfl underlying73 aad rfl w7 ot ey (RF (A:=[_,_,_])) ot bj nH nI (fun HM GZ ajA ajB=>?_);refine AD.perm (acZ (S3:=[⟨HM,146,GZ*5,flatMap gO (L++[(⟨(t.ag[i]'aa),iQ,iR,Sy,mc,me,Sz⟩:aX)])⟩]) (A:=[_,_,_])) ?_;refine AD.perm (S':=⟨b5,146,5,cP (t.ag[i]'aa)⟩::⟨b3,75,2,[aP dN L.length dg,ae t.root]⟩::⟨b2,75,2,[bF,ae 0]⟩::([⟨HM,146,GZ*5,flatMap gO (L++[(⟨(t.ag[i]'aa),iQ,iR,Sy,mc,me,Sz⟩:aX)])⟩]++(L++[(⟨(t.ag[i]'aa),iQ,iR,Sy,mc,me,Sz⟩:aX)]).flatMap bO)) (jS fun mD=>by rw[TH];simp only[bO,map_append,map_cons,map_nil,sum_append,sum_cons,sum_nil];omega) ?_;refine fB ?_;refine aH 1 ?_;refine aO 1 [_,_] sizeOf73 ?_;refine an 51 [2,3,13,14,15] ?_;refine cc [2,3,13,14,15] ?_;refine⟨((i+1),(L++[(⟨(t.ag[i]'aa),iQ,iR,Sy,mc,me,Sz⟩:aX)]),(some ⟨HM,0,none⟩),GZ,[⟨HM,146,GZ*5,flatMap gO (L++[(⟨(t.ag[i]'aa),iQ,iR,Sy,mc,me,Sz⟩:aX)])⟩]),_,cr,aJ,w4,wm,j8,(bQ ajA ajB),rfl⟩):p:=h
theorem z6(h:p:=by
  refine qn 13 rfl ?_;refine qn 16 rfl ?_;refine AD.two (i:=14) (j:=17) aC ?_ ?_
  ·refine bD.skip rfl (mP rfl rfl rfl lk jC) rfl ?_;refine AD.two (i:=15) (j:=17) aC ?_ ?_
   ·refine bD.skip rfl (mP rfl rfl rfl lk jC) rfl ?_;refine AD.one (i:=17) aC ?_;refine bD.skip rfl (mP rfl rfl rfl lk jC) rfl ?_;refine qn 18 rfl ?_;refine qn 19 rfl ?_;refine dj 20 rfl vM ?_;refine fB ?_;refine bp [3] ?_;refine af [52] ?_;refine eY ?_;refine af [2] ?_;refine eZ ?_;refine⟨vi ?_,rfl⟩;try simp only[vn] at *
    simp only[um,oB];try simp_all
    try omega
   refine bD.skip rfl (mP rfl rfl rfl lk jC) rfl ?_;refine qn 18 rfl ?_;refine AD.one (i:=15) aC ?_;refine bD.skip rfl (mP rfl rfl rfl lk jC) rfl ?_;refine qn 19 rfl ?_;refine dj 20 rfl vM ?_;refine fB ?_;refine bp [3] ?_;refine af [52] ?_;refine eY ?_;refine af [2] ?_;refine eZ ?_;refine⟨vi ?_,rfl⟩;try simp only[vn] at *
   simp only[um,oB];try simp_all
   try omega
  refine bD.skip rfl (mP rfl rfl rfl lk jC) rfl ?_;refine qn 18 rfl ?_;refine AD.one (i:=14) aC ?_;refine bD.skip rfl (mP rfl rfl rfl lk jC) rfl ?_;refine AD.one (i:=15) aC ?_;refine bD.skip rfl (mP rfl rfl rfl lk jC) rfl ?_;refine qn 19 rfl ?_;refine dj 20 rfl vM ?_;refine fB ?_;refine bp [3] ?_;refine af [52] ?_;refine eY ?_;refine af [2] ?_;refine eZ ?_;refine⟨vi ?_,rfl⟩;try simp only[vn] at *
  simp only[um,oB];try simp_all
  try omega):p:=h
theorem z7(h:p:=by
  refine⟨vb (Fq fun hp=>?_),rfl⟩;have g1:=hp.eO;have g2:=hp.hlen;have g3:=hp.xN;have g4:=hp.xD;have g5:=hp.xO;have g6:=hp.leaf;have g7:=fun h=>(hp.node h).1;have g8:=fun h (e:p.keys.length=0)=>(hp.node h).2 (length_eq_zero_iff.1 e);clear hp;first|omega|(rw[ah3 g5] at aL;cases aL;done)|(have:=g6 rO;omega)|(have fA:p.leaf=false:=(by simpa using uw);have:=g7 fA;omega)|(have fA:p.leaf=false:=(by simpa using uw);exact g8 fA w4)):p:=h
theorem z8(h:p:=by
  refine aO 0 [_,_,_] sizeOf33 ?_;refine an 106 [6,7] ?_;refine aM [] ?_;rw[aW];first|exact⟨rfl,rfl⟩|(refine⟨?_,rfl⟩;clear aW fC HN oN lN q9 pD;generalize (fu a b==0)=z1 at *;generalize (decide (fu a b<0))=z2 at *;subst_vars;simp_all;done)):p:=h
theorem XG(h:p:=by
  have NT:((bq[bq.length-1].k==6) || !(((dP (mv key) (bq.take 2))==0)==nt))=true:=(by first|rw[LL,Bool.true_or]|rw[jb,Bool.or_true])
  have DA:(gz key (f+1) ops (lo,hi))=sQ (gm [bq[(dP ij (bq.take 2)).toNat].v]).1 b1:=(by rw[VR];unfold vN;rw[show((bq[bq.length-1].k==6)||((dP (mv key) (bq.take 2))==0)!=nt)=true from NT,←jd];rfl)
  refine aB 7 ?_;refine bY 141 (fun ah4 agG=>?_) (fun ah4 agG=>?_)
  ·refine bp [0,11,149] ?_;refine eY ?_;have tF:b1.2.length=0∨compareBytes (gm [bq[(dP ij (bq.take 2)).toNat].v]).1 b1.2<0:=(by first|exact .inl w4|exact .inr (by simpa using iS))
   have tG:(gz key (f+1) ops (lo,hi))=(b1.1,(gm [bq[(dP ij (bq.take 2)).toNat].v]).1):=(by rw[DA];unfold sQ;rw[if_pos tF])
   refine dY 2 ?_;refine ec call90 (Jz (gm [bq[(dP ij (bq.take 2)).toNat].v]).1 w4) ?_;refine aH 2 ?_;refine aO 0 [_,_] sizeOf90 ?_;refine an 155 [] ?_;refine aM [⟨b0,_,_,_⟩] ?_;refine⟨rfl,?_⟩;first|rw[tG]|rw[aW]
  refine aH 5 ?_;refine OD.iC iJ rfl rfl rfl call64 (TI (gm [bq[(dP ij (bq.take 2)).toNat].v]).1 b1.2) ⟨ot,ot,trivial⟩ ?_;refine an 155 [0,11,149] ?_;refine av ?_ ?_<;>intro iS mY
  ·have tF:b1.2.length=0∨compareBytes (gm [bq[(dP ij (bq.take 2)).toNat].v]).1 b1.2<0:=(by first|exact .inl w4|exact .inr (by simpa using iS))
   have tG:(gz key (f+1) ops (lo,hi))=(b1.1,(gm [bq[(dP ij (bq.take 2)).toNat].v]).1):=(by rw[DA];unfold sQ;rw[if_pos tF])
   refine dY 2 ?_;refine ec call90 (Jz (gm [bq[(dP ij (bq.take 2)).toNat].v]).1 w4) ?_;refine aH 2 ?_;refine aO 0 [_,_] sizeOf90 ?_;refine an 155 [] ?_;refine aM [⟨b0,_,_,_⟩] ?_;refine⟨rfl,?_⟩;first|rw[tG]|rw[aW]
  have tF:¬(b1.2.length=0∨compareBytes (gm [bq[(dP ij (bq.take 2)).toNat].v]).1 b1.2<0):=(by (have XH:¬compareBytes (gm [bq[(dP ij (bq.take 2)).toNat].v]).1 b1.2<0:=by simpa using iS);omega)
  have tG:(gz key (f+1) ops (lo,hi))=b1:=(by rw[DA];unfold sQ;rw[if_neg tF])
  refine aM [⟨b0,_,_,_⟩] ?_;refine⟨rfl,?_⟩;first|rw[tG]|rw[aW]):p:=h
theorem XI(h:p:=by
  refine aB 1 ?_;refine OD.wk (Wk.er (n:=19) (l':=[(0,_),(1,_)]) (S':=S) rfl nh fI) ?_;refine OD.nil ?_;refine aB 3 ?_;refine OD.wk (Wk.er (n:=19) (l':=[(0,_),(1,_),(7,_),(8,_)]) (S':=S) rfl nh fI) ?_;refine OD.nil ?_;refine eG [0,1,7] (fun aS _ (k:Nat) aE=>(k≤ls.length)∧(∀x∈ls.take k,p x=false)∧aE=(⟨19,(8,ae (k:Nat))::aS,S⟩:St)) (fun (k:Nat)=>ls.length-k) 0 ⟨Nat.zero_le _,bj,rfl⟩ ?_;rintro k _ ⟨hk,h0,rfl⟩;refine aB 1 ?_;refine OD.wk (Wk.er (n:=19) (l':=[(0,_),(1,_),(7,_),(8,_),(9,_)]) (S':=S) rfl nh fI) ?_;refine OD.nil ?_;refine av ?_ ?_<;>intro aL bB
  ·refine aB 2 ?_;refine OD.wk (Wk.er (n:=19) (l':=[(0,_),(1,_),(5,_),(7,_),(8,_)]) (S':=S) rfl nh fI) ?_;refine OD.nil ?_;refine aB 5 ?_;refine OD.lY (f:=g) (args:=[_]) ap rfl rfl (ud rfl lk) fG (hp (ls[k]'w4) (getElem_mem _)) rfl ⟨ud rfl lk,trivial⟩ (JA _) ?_;rintro _ S2 ⟨rfl,iT⟩;rw[iT];clear iT;refine OD.wk (Wk.er (n:=19) (l':=[(0,_),(1,_),(5,_),(7,_),(8,_),(16,_)]) (S':=S) rfl nh fI) ?_;refine OD.nil ?_;refine av ?_ ?_<;>intro aY cD
   ·refine aB 2 ?_;refine OD.wk (Wk.er (n:=19) (l':=[(4,_)]) (S':=S) rfl nh fI) ?_;refine OD.nil ?_;refine aM S ?_;refine⟨?_,rfl⟩;first|(rw[wQ w4 h0 uL])|(rw[vf w4 h0])
   refine dY 2 ?_;refine OD.wk (Wk.er (n:=19) (l':=[(0,_),(1,_),(7,_),(8,_)]) (S':=S) rfl nh fI) ?_;refine OD.nil ?_;refine⟨k+1,_,cr,aJ,w4,(by rw[take_succ_eq_append_getElem w4];intro x hx;rcases mem_append.1 hx with hx|hx;exact h0 x hx;simp only[mem_singleton] at hx;subst hx;assumption),rfl⟩
  refine aB 1 ?_;refine OD.wk (Wk.er (n:=19) (l':=[(4,_)]) (S':=S) rfl nh fI) ?_;refine OD.nil ?_;refine aM S ?_;refine⟨?_,rfl⟩;first|(rw[wQ w4 h0 uL])|(rw[vf w4 h0])
  ):p:=h
theorem z12(h:p:=by
  refine af [2] ?_;refine eZ ?_;refine⟨vi ?_,rfl⟩;try simp only[vn] at *
  simp only[um,oB];try simp_all
  try omega):p:=h
theorem XJ(h:p:=by
  refine cL [1,3] (RG hm hw s.names (by have:=hf.ok.2.2.1;omega) hf.n) ?_;refine af [1,3,36] ?_;refine av ?_ ?_<;>intro da eA
  ·refine af [2] ?_;refine eZ ?_;refine⟨vi ?_,rfl⟩;unfold pp jt;simp_all;all_goals (try (intros;(repeat' split)<;>first|rfl|omega))
  refine cL [1,4] (E7 hm hw s.aj (fun o h=>(hf.w o h).1)) ?_;refine af [1,4,42] ?_;refine av ?_ ?_<;>intro dR fH
  ·refine af [2] ?_;refine eZ ?_;refine⟨vi ?_,rfl⟩;unfold pp jt;simp_all;all_goals (try (intros;(repeat' split)<;>first|rfl|omega))
  refine af [1,46] ?_;refine av ?_ ?_<;>intro fM gW
  ·refine cL [2] (vo hm hw s.order hf.o) ?_;refine eZ ?_;refine⟨vi ?_,rfl⟩;unfold pp jt;simp_all;all_goals (try (intros;(repeat' split)<;>first|rfl|omega))
  refine af [2] ?_;refine eZ ?_;refine⟨vi ?_,rfl⟩;unfold pp jt;simp_all;all_goals (try (intros;(repeat' split)<;>first|rfl|omega))):p:=h
theorem HO(h:p:=by
  refine an 76 [11,12] ?_;refine af [12,74] ?_;refine av ?_ ?_<;>intro vO Gx
  ·refine af [8,9] ?_;refine aM [] ?_;refine⟨?_,rfl⟩;unfold jw okF xP;simp_all
  refine af [8,9] ?_;refine aM [] ?_;refine⟨?_,rfl⟩;unfold jw okF xP;simp_all):p:=h
theorem AX(h:p:=by
  refine af [8,9] ?_;refine aM [] ?_;refine⟨?_,rfl⟩;unfold jw okF xP;simp_all):p:=h
theorem NU(h:p:=by
  refine⟨vi ?_,rfl⟩;try simp only[vn] at *
  simp only[um,oB];try simp_all
  try omega):p:=h
theorem DB(h:p:=by
  refine eZ ?_;refine⟨vi ?_,rfl⟩;unfold pp jt;simp_all;all_goals (try (intros;(repeat' split)<;>first|rfl|omega))):p:=h
theorem XK(h:p:=by
  refine⟨vi ?_,rfl⟩;unfold pp jt;simp_all;all_goals (try (intros;(repeat' split)<;>first|rfl|omega))):p:=h
theorem XL(h:p:=by
  have kv:=Lb hv;have kw:=Lb hw;unfold nD;rw[cons_append,cons_append];unfold fu cmpL gB gB gB gB at h;rcases sH v.k w.k with h1|h1|h1
  ·exact qa _ _ w4
  ·have ek:kb v=kb w:=UInt8.toNat_inj.1 w4;rw[ek,pu];rw[h1.1,if_neg bj] at h;have hk:=IS hv;have h4:v.k=0∨v.k=1∨v.k=2∨v.k=3:=(by omega)
   rcases sH v.n w.n with h2|h2|h2
   ·rcases h4 with e|e|e|e
    ·have:=B5 hv e;have:=B5 hw w4;simp_all
    ·have n1:=Lc hv e;have n2:=Lc hw w4;rw[Gt e,Gt w4];exact qa _ _ w4
    ·have u1:=Ld ov;have u2:=Ld ow;have b1:=ov.n2;have b2:=ow.n2;rw[Gu e,Gu w4];exact Gy _ _ _ _ (by rw[xu,xu]) (by rw[JB w4,JB w4];omega)
    have:=Kj hv e;have:=Kj hw w4;omega
   ·rw[h2.1,if_neg bj] at h;have h:compareBytes v.s.data.toList w.s.data.toList = -1:=by
     by_cases hz:compareBytes v.s.data.toList w.s.data.toList=0
     ·rw[hz] at h;simp at h
     rw[if_pos hz] at h;exact h
    rcases h4 with e|e|e|e
    ·rw[B5 hv e,B5 hw w4] at h;exact absurd h w7
    ·rw[Kk hv e,Kk hw w4] at h;exact absurd h w7
    ·rw[Kl hv e,Kl hw w4] at h;exact absurd h w7
    rw[Gw e,Gw w4,append_assoc,append_assoc];exact Gb _ _ _ _ h
   rw[h2.1,if_pos w7] at h;exact absurd h w7
  rw[h1.1,if_pos w7] at h;exact absurd h w7):p:=h
theorem z20(h:p:=by
  skip;refine mE 20 [0,2,3,8,9,59,64,69,74] ?_;refine aR 4 ?_ (h:=by exact(cW (mk:=Op.load 3) rfl ot (vC (g:=Ph.cs) (ls:=ps) (i:=k) (j:=1) vu isAgg3 aa rfl)));refine aR 4 ?_ (h:=by exact(cW (mk:=Op.load 3) rfl ot (vC (g:=Ph.cs) (ls:=ps) (i:=k) (j:=2) vu isAgg3 aa rfl)));refine aR 4 ?_ (h:=by exact(cW (mk:=Op.load 3) rfl ot (vC (g:=Ph.cs) (ls:=ps) (i:=k) (j:=3) vu isAgg3 aa rfl)));refine aR 4 ?_ (h:=by exact(cW (mk:=Op.load 63) rfl ot (vC (g:=Ph.cs) (ls:=ps) (i:=k) (j:=4) vu isAgg63 aa rfl)));refine jP ?_;refine aH 1 ?_;refine OD.call ap rfl rfl rfl call23 (VC.uM (Va hm hw ht hG (⟨2,(ps[k]'aa).t,(ps[k]'aa).a,(ps[k]'aa).b,(ps[k]'aa).row,.mk 0 0 ⟨#[]⟩ [],.mk 0 0 ⟨#[]⟩ [],false⟩:Ph) ⟨(show(-9223372036854775808:Int)≤2∧(2:Int)≤9223372036854775807 by decide),rY.t,rY.a,rY.b,rY.row,Vb,Vb⟩) (args':=[.agg [ae 2,ae (ps[k]'aa).t,ae (ps[k]'aa).a,ae (ps[k]'aa).b,.list 3 ((ps[k]'aa).row.flatMap cV) (ps[k]'aa).row.length,ae 0,ae 0,fj,bF,ae 0,ae 0,fj,bF,bG false]]) ⟨sO ⟨bN,bN,bN,bN,bN,bN,bN,bN,eu,bN,bN,bN,eu,bN,trivial⟩,trivial⟩) ⟨ot,trivial⟩ (fg _) ?_;rintro _ _ ⟨s',rfl,rfl,ajC,ajD⟩;have hk9:s'.kind=3:=ajD.trans (show(1:Int)+ev 2 6=3 by decide);have ajE:¬s'.kind=1∧¬s'.kind=2:=(by omega)
  refine aO 0 [_,_,_,_,_,_,_,_,_,_,_,_] sizeOf46 ?_;refine an 88 [0,2,3,8,9] ?_;refine⟨_,aJ,s',ajC,ajE,rfl⟩):p:=h
theorem z21(h:p:=by
  refine bY 103 (fun Cw agH=>?_) (fun Cw agH=>?_)
  ·refine aH 3 ?_;refine OD.iC iJ rfl rfl rfl call64 (xw p.keys[i] p.high) ⟨ot,ot,trivial⟩ ?_;refine an 132 [1,2,73,74,75,110] ?_;refine av ?_ ?_<;>intro da eA
   ·have oI:¬vD p i:=fun hk=>by obtain⟨k1,k2,k3⟩:=hk aa;unfold bu at k2 k3;first|(rw[k1] at xQ;cases xQ;done)|(have:=k2 w4;omega)|(have:=k3 (Le Cw);have hx:=of_decide_eq_true da;omega)
    refine af [4] ?_;refine aM [] ?_;refine⟨vb (Fq fun hp=>?_),rfl⟩;exact oI (TJ hp i)
   have hK:vD p i:=fun _=>⟨by simpa using xQ,fun h0=>by unfold bu;first|(exfalso;omega)|(have hx:=of_decide_eq_false An;omega),fun hne=>by first|exact absurd (len_nil Cw) hne|(unfold bu;have hx:=of_decide_eq_false da;omega)⟩
   refine cc [1,2,73,74,75] ?_;refine⟨(i+1),_,cr,aJ,w4,(fun j hj=>by rcases Nat.lt_or_ge j i with h|h;exact yo j h;obtain rfl:j=i:=w4;exact hK),rfl⟩
  refine an 132 [1,2,73,74,75,110] ?_;refine gq ?_;have hK:vD p i:=fun _=>⟨by simpa using xQ,fun h0=>by unfold bu;first|(exfalso;omega)|(have hx:=of_decide_eq_false An;omega),fun hne=>by first|exact absurd (len_nil Cw) hne|(unfold bu;have hx:=of_decide_eq_false da;omega)⟩
  refine cc [1,2,73,74,75] ?_;refine⟨(i+1),_,cr,aJ,w4,(fun j hj=>by rcases Nat.lt_or_ge j i with h|h;exact yo j h;obtain rfl:j=i:=w4;exact hK),rfl⟩):p:=h
theorem z22(h:p:=by
  refine an 69 [4] ?_;refine aM [_] ?_;first|exact gE.cast (gE.mk (g:=cO) (e:=35) (sz:=5) (ls:=[(⟨1,ux n s,⟨#[]⟩⟩:aK)]) (bQ (ls:=[(⟨1,ux n s,⟨#[]⟩⟩:aK)]) (Nat.le_refl _) (show 1≤maxLen by decide))) (by unfold mQ sR;rw[if_neg w4])|exact gE.cast (gE.mk (g:=cO) (e:=35) (sz:=5) (ls:=[(⟨kk,ux n s,⟨#[]⟩⟩:aK)]) (bQ (ls:=[(⟨kk,ux n s,⟨#[]⟩⟩:aK)]) (Nat.le_refl _) (show 1≤maxLen by decide))) (by unfold mQ sR;rw[if_neg w4,show kk=1 by omega])|exact gE.cast (gE.mk (g:=cO) (e:=35) (sz:=5) (ls:=[(⟨kk,bw,sS (j:Int)⟩:aK)]) (bQ (ls:=[(⟨kk,bw,sS (j:Int)⟩:aK)]) (Nat.le_refl _) (show 1≤maxLen by decide))) (by unfold mQ xE;rw[if_pos w4,hj,show kk=2 by omega])):p:=h
theorem z23(h:p:=by
  have tH:((bq[bq.length-1].k==6)||(((dP (mv key) (bq.take 2))==0)==nt))=true:=(by first|rw[LM,Bool.true_or]|rw[dR,Bool.or_true])
  refine cL [0,8,9,11,13,122] (TI (gm [bq[(dP ij (bq.take 2)).toNat].v]).1 lo) ?_;refine av ?_ ?_<;>intro fM gW
  ·have yp:compareBytes (gm [bq[(dP ij (bq.take 2)).toNat].v]).1 lo>0:=(by simpa using fM)
   have DC:((gm [bq[(dP ij (bq.take 2)).toNat].v]).1,hi)=(bif (bq[bq.length-1].k==6)||(((dP (mv key) (bq.take 2))==0)==nt) then oJ (gm [bq[(dP ij (bq.take 2)).toNat].v]).1 (lo,hi) else (lo,hi)):=(by rw[tH];show _=oJ _ _;unfold oJ;rw[if_pos yp])
   refine dY 2 ?_;refine ec call90 (Jz (gm [bq[(dP ij (bq.take 2)).toNat].v]).1 w4) ?_;refine aH 2 ?_;refine aO 1 [_,_] sizeOf90 ?_;refine an 155 [0,8,9,11,13] ?_;refine⟨_,aJ,((gm [bq[(dP ij (bq.take 2)).toNat].v]).1,hi),DC,(by first|exact dJ|exact e9),eK,rfl⟩
  have yp:¬compareBytes (gm [bq[(dP ij (bq.take 2)).toNat].v]).1 lo>0:=(by simpa using fM)
  have DC:(lo,hi)=(bif (bq[bq.length-1].k==6)||(((dP (mv key) (bq.take 2))==0)==nt) then oJ (gm [bq[(dP ij (bq.take 2)).toNat].v]).1 (lo,hi) else (lo,hi)):=(by rw[tH];show _=oJ _ _;unfold oJ;rw[if_neg yp])
  refine CD.skip ?_;refine⟨_,aJ,(lo,hi),DC,(by first|exact dJ|exact e9),eK,rfl⟩):p:=h
theorem z24(h:p:=by
  refine⟨vi ?_,rfl⟩;first|exact hf.symm|(rw[hf,hx,RH aa xR (by first|assumption|decide)];done)|(rw[hf,fk,if_pos (by simpa using qo)];done)|(rw[hf,fk,if_neg (by simpa using qo)];done)):p:=h
theorem z25(h:p:=by
  have fS:vE ff y=false:=(by unfold vE;simp_all[Vc])
  refine CI.skip ?_;refine CI.region NL rfl ?_;refine bV (ee 1) ?_;refine bV (Mm 0 [_,_]) ?_;refine eD (cq 0 [_]) [.slice none 0 0,.int .i64 0] [_,_] zeroValue92 runUnderlying87 sizeOf92 (fun HP=>?_);refine fT 0 40 2 1 ?_;refine OD.eL (ls:=pre) (new:=[y]) (Sq:=So) Vd agI ap rfl rfl underlying87 aaA rfl w7 ot ho (dI (A:=[_,_,_])) ot bj HA HA (fun wo G0 ajF ajG=>?_);refine OD.perm (ez (S1:=[⟨wo,92,G0*2,flatMap cE (pre++[y])⟩]) (A:=[_,_,_])) ?_;refine aO 1 [_] sizeOf87 ?_;refine OD.wk (Wk.er (n:=43) (l':=[]) (S':=(⟨kf,92,2,[_,_]⟩::⟨b9,87,1,[_]⟩::⟨b5,90,1,[_]⟩::[⟨wo,92,G0*2,flatMap cE (pre++[y])⟩])) rfl rfl trivial) ?_;refine OD.nil ?_;exact⟨_,Sublist.cons _ (Sublist.refl _),(fun x hx=>by rcases mem_append.1 hx with hx|hx;exact aT x hx;rw[mem_singleton] at hx;subst hx;exact fS),(some ⟨wo,0,none⟩),G0,[⟨wo,92,G0*2,flatMap cE (pre++[y])⟩],(bQ ajF ajG),rfl⟩):p:=h
theorem z26(h:p:=by
  refine aB 1 ?_;refine OD.lY (f:=65) (args:=[_]) (all:=[_,_,_]) (Sf:=[_,_]) (R:=[]) ap rfl rfl ot call65 (LN r k n d s ts 0 b2 b3 IH gI gJ hs hd1 hd w7) rfl ⟨bP,trivial⟩ (Perm.refl _) ?_;rintro _ _ ⟨NV,⟨aqm,aqn,rfl,ajH⟩,rfl⟩;refine OD.perm (RI (A:=[_,_])) ?_;refine aH 2 ?_;refine eD (cq 0 [_]) [.int .i64 0,.int .i64 0,.int .i64 0,.string ⟨#[]⟩,.string ⟨#[]⟩] [_,_,_,_,_] zeroValue35 runUnderlying36 sizeOf35 (fun AY=>?_);refine fT 0 58 5 1 ?_;refine OD.eL (ls:=(gX r ts n s 0)) (new:=[(⟨kk,bw,⟨#[]⟩⟩:aK)]) (Sq:=NV) mu Lf ap rfl rfl underlying36 IT rfl w7 ot ajH (dI (A:=[_,_])) ot bj AM AM (fun tI sY CP CQ=>?_);refine OD.perm (ez (S1:=[⟨tI,35,sY*5,flatMap cO ((gX r ts n s 0)++[(⟨kk,bw,⟨#[]⟩⟩:aK)])⟩]) (A:=[_,_])) ?_;refine an 69 [4] ?_;refine aM [⟨tI,35,sY*5,flatMap cO ((gX r ts n s 0)++[(⟨kk,bw,⟨#[]⟩⟩:aK)])⟩] ?_;exact gE.cast (gE.mk (bQ CP CQ)) (by rw[wR,lO,if_neg w4,if_neg w4,if_pos w4];rfl)):p:=h
theorem HQ(h:p:=by
  refine aM [] ?_;refine⟨?_,rfl⟩;unfold jx;first|(rw[if_pos bB];first|done|rfl)|(rw[if_neg bB,if_pos ei,hj];rcases j with _|_|j<;>first|rfl|omega)|(rw[if_neg bB,if_neg cD,if_pos cR];first|done|rfl)|(rw[if_neg bB,if_neg cD,if_neg cR,if_pos w4,show -v.n=0-v.n by omega];first|done|rfl)|(rw[if_neg bB,if_neg cD,if_neg cR,if_neg w4];first|done|rfl)):p:=h
theorem z28(h:p:=by
  refine at_ rfl fa ?_;refine dj 14 rfl (dO 1 (h:=by first|exact .l (j:=a+t+1) rfl w4|exact .r (j:=a+t+1) rfl w4)) ?_;refine AD.one (i:=15) aC ?_;refine bD.storeAt (k:=0) (cs':=((Mv P B Q x (t+1)).set (a+t+1) ((Mv P B Q x (t+1))[a+t])).flatMap cI) rfl ap rfl rfl ot rfl rfl ot rfl rfl sizeOf3 rfl HF (by rw[Nat.zero_add];exact pi eM _ _ w4) iP ?_;refine fB ?_;refine aH 1 ?_;refine OD.storeAt (k:=0) (cs':=(Mv P B Q x (t)).flatMap cI) ap rfl rfl ot rfl rfl ot rfl rfl sizeOf3 rfl HC (by rw[Nat.zero_add];exact(pi eM ((Mv P B Q x (t+1)).set (a+t+1) ((Mv P B Q x (t+1))[a+t])) ((Mv P B Q x (t+1))[a+t+1]) wc).trans (congrArg (flatMap cI) (agJ NW hP w4 w4))) ?_;refine an 220 [0,14,17] ?_;refine iU [0,14,17] ?_;refine aR 1 ?_ (h:=by exact(dA rfl ot bP (iy (r:=((a+t:Nat):Int)) ND)));refine bH ?_;refine⟨t,_,cr,aJ,w4,w4,rfl⟩):p:=h
theorem XM(h:p:=by
  refine at_ rfl fa ?_;refine dj 14 rfl (dO 1 (h:=by first|exact .l (j:=a+t) rfl w4|exact .r (j:=a+t) rfl w4)) ?_;refine AD.one (i:=15) aC ?_;refine bD.storeAt (k:=0) (cs':=((Mv P B Q x (t)).set (a+t) ((Mv P B Q x (t))[a+t+1])).flatMap cI) rfl ap rfl rfl ot rfl rfl ot rfl rfl sizeOf3 rfl HF (by rw[Nat.zero_add];exact pi eM _ _ w4) iP ?_;refine fB ?_;refine aH 1 ?_;refine OD.storeAt (k:=0) (cs':=(Mv P B Q x (t+1)).flatMap cI) ap rfl rfl ot rfl rfl ot rfl rfl sizeOf3 rfl HC (by rw[Nat.zero_add];exact(pi eM ((Mv P B Q x (t)).set (a+t) ((Mv P B Q x (t))[a+t+1])) ((Mv P B Q x (t))[a+t]) wc).trans (congrArg (flatMap cI) (agK NW hP w4 w4))) ?_;refine an 220 [0,10,13] ?_;refine iU [0,10,13] ?_;refine aR 1 ?_ (h:=by exact(dA rfl ot bP (kr (r:=((a+(t+1):Nat):Int)) (by rw[show(((a+t:Nat):Int)+1)=((a+(t+1):Nat):Int) by omega];exact wrap_i64 w4 w4))));refine bH ?_;refine⟨(t+1),_,cr,aJ,w4,rfl⟩):p:=h
theorem XN(h:p:=by
  refine at_ rfl fa ?_;refine dj 14 rfl (dO 1 (h:=by first|exact .l (j:=j) rfl w4|exact .r (j:=j) rfl w4)) ?_;refine AD.one (i:=15) aC ?_;refine bD.storeAt (k:=0) (cs':=(lP.set j (lP[j-1]'rf)).flatMap cI) rfl ap rfl rfl ot rfl rfl ot rfl rfl sizeOf3 rfl HF (by rw[Nat.zero_add];exact pi eM _ _ rh) iP ?_;refine fB ?_;refine aH 1 ?_;refine OD.storeAt (k:=0) (cs':=((lP.set j (lP[j-1]'rf)).set (j-1) (lP[j]'rh)).flatMap cI) ap rfl rfl ot rfl rfl ot rfl rfl sizeOf3 rfl HC (by rw[Nat.zero_add];exact pi eM _ _ (by rw[length_set];exact rf)) ?_;refine an 53 [0,1,2,3,8,9] ?_;refine iU [0,1,2,3,8,9] ?_;refine aR 1 ?_ (h:=by exact(dA rfl ot bP (iy (r:=((j-1:Nat):Int)) NE)));refine bH ?_;refine⟨((j-1),((lP.set j (lP[j-1]'rf)).set (j-1) (lP[j]'rh))),_,cr,aJ,(abp hj hja rh rf (FO ah5)),(by simpa using Ao),rfl⟩):p:=h
theorem z31(h:p:=by
  refine bY 71 (fun ajI ah6=>?_) (fun ajI ah6=>?_)
  ·refine bp [0,2,4,6,8,79] ?_;refine av ?_ ?_<;>intro cm cR
   ·have sZ:(bq.length≠3∨(nt=true∧bq[bq.length-1].k≠7)∨(bq[bq.length-1].k≠6∧bq[bq.length-1].k≠7)):=(by first|omega|(simp_all;omega)|simp_all)
    have mZ:nB key bq nt (lo,hi)=(lo,hi):=(by unfold nB;rw[vv vP,if_pos sZ])
    rw[mZ] at aW;refine aM [⟨b0,_,_,_⟩] ?_;refine⟨rfl,?_⟩;first|rw[tG]|rw[aW]
   have sZ:¬(bq.length≠3∨(nt=true∧bq[bq.length-1].k≠7)∨(bq[bq.length-1].k≠6∧bq[bq.length-1].k≠7)):=(by first|omega|(simp_all;omega)|simp_all)
   refine CD.skip ?_;refine⟨_,aJ,sZ,rfl⟩
  refine bp [0,2,4,6,8,79] ?_;refine gq ?_;have sZ:¬(bq.length≠3∨(nt=true∧bq[bq.length-1].k≠7)∨(bq[bq.length-1].k≠6∧bq[bq.length-1].k≠7)):=(by first|omega|(simp_all;omega)|simp_all)
  refine CD.skip ?_;refine⟨_,aJ,sZ,rfl⟩):p:=h
theorem XO(h:p:=by
  have sZ:(bq.length≠3∨(nt=true∧bq[bq.length-1].k≠7)∨(bq[bq.length-1].k≠6∧bq[bq.length-1].k≠7)):=(by first|omega|(simp_all;omega)|simp_all)
  have mZ:nB key bq nt (lo,hi)=(lo,hi):=(by unfold nB;rw[vv vP,if_pos sZ])
  rw[mZ] at aW;refine aM [⟨b0,_,_,_⟩] ?_;refine⟨rfl,?_⟩;first|rw[tG]|rw[aW]):p:=h
theorem XP(h:p:=by
  refine af [0] ?_;refine af [3] ?_;refine af [3,4] ?_;refine av ?_ ?_<;>intro aL bB
  ·refine eY ?_;refine af [2] ?_;refine aM [] ?_;refine⟨vi ?_,rfl⟩;unfold bS;simp_all
  refine cc [3,4] ?_;refine av ?_ ?_<;>intro aY cD
  ·refine af [2] ?_;refine aM [] ?_;refine⟨vi ?_,rfl⟩;unfold bS;simp_all
  refine af [3,7] ?_;refine av ?_ ?_<;>intro cm cR
  ·refine eY ?_;refine af [2] ?_;refine aM [] ?_;refine⟨vi ?_,rfl⟩;unfold bS;simp_all
  refine cc [7] ?_;refine av ?_ ?_<;>intro da eA
  ·refine af [2] ?_;refine aM [] ?_;refine⟨vi ?_,rfl⟩;unfold bS;simp_all
  refine af [2] ?_;refine aM [] ?_;refine⟨vi ?_,rfl⟩;unfold bS;simp_all
  ):p:=h
theorem XQ(h:p:=by
  have oI:¬vD p i:=fun hk=>by obtain⟨k1,k2,k3⟩:=hk aa;unfold bu at k2 k3;first|(rw[k1] at xQ;cases xQ;done)|(have:=k2 w4;omega)|(have:=k3 (Le Cw);have hx:=of_decide_eq_true da;omega)
  refine af [4] ?_;refine aM [] ?_;refine⟨vb (Fq fun hp=>?_),rfl⟩;exact oI (TJ hp i)):p:=h
theorem NX(h:p:=by
  refine aH 1 ?_;first|refine OD.cells (k:=0) (cs':=[.list 1 [] 0,_]) rfl ⟨eu,bN,trivial⟩ rfl ?_|skip
  first|refine OD.cells (k:=1) (cs':=[.list 1 [] 0,_]) rfl ⟨eu,bN,trivial⟩ rfl ?_|skip
  first|refine OD.cells (k:=1) (cs':=[.list 5 [] 0]) rfl ⟨eu,trivial⟩ rfl ?_|skip
  first|refine OD.cells (k:=2) (cs':=[.list 5 [] 0]) rfl ⟨eu,trivial⟩ rfl ?_|skip
  refine an 46 [4,5,6] ?_;refine aM [] ?_;rw[aW];exact⟨rfl,rfl⟩):p:=h
theorem XR(h:p:=by
  refine⟨vi ?_,rfl⟩;try simp only[vn] at *
  unfold cg;simp_all;try omega):p:=h
theorem z37(h:p:=by
  refine aM [⟨b0,_,_,_⟩] ?_;refine⟨rfl,?_⟩;first|rw[tG]|rw[aW]):p:=h
theorem XS(h:p:=by
  refine at_ rfl fa ?_;refine dj 20 rfl (dO 1) ?_;refine AD.one (i:=21) aC ?_;refine bD.storeAt (k:=0) (cs':=((kg l la lb i).set (la+i) ((kg l la lb i)[lb+i]'hb)).flatMap cI) rfl ap rfl rfl ot rfl rfl ot rfl rfl sizeOf3 rfl HF (by rw[Nat.zero_add];exact pi eM _ _ ha) iP ?_;refine fB ?_;refine aH 1 ?_;refine OD.storeAt (k:=0) (cs':=(kg l la lb (i+1)).flatMap cI) ap rfl rfl ot rfl rfl ot rfl rfl sizeOf3 rfl HC (by rw[Nat.zero_add];exact(pi eM ((kg l la lb i).set (la+i) ((kg l la lb i)[lb+i]'hb)) ((kg l la lb i)[la+i]'ha) (by rw[length_set];exact hb)).trans (by rw[kg,sw,mR ha,mR hb])) ?_;refine an 38 [0,1,2,3,10] ?_;refine cc [0,1,2,3,10] ?_;refine⟨(i+1),_,cr,aJ,w4,rfl⟩):p:=h
theorem oO(h:p:=by
  refine aM [] ?_;rw[aW];exact⟨rfl,rfl⟩):p:=h
theorem z40(h:p:=by
  rcases Int.lt_trichotomy v.n w.n with q|q|q
  ·exact q
  ·have hs:v.s=w.s:=by
    have a1:v.s.data.size=0:=sv;have a2:w.s.data.size=0:=sw;have e1:v.s=⟨v.s.data⟩:=rfl;have e2:w.s=⟨w.s.data⟩:=rfl;rw[e1,e2,Array.eq_empty_of_size_eq_zero a1,Array.eq_empty_of_size_eq_zero a2]
   have:v=w:=(by cases v;cases w;simp_all)
   rw[this] at h;exact absurd h (jl _)
  have hl:fu w v<0:=(FP w v).2 (.inr ⟨by omega,.inl q⟩);have h3:=Km hw ow hv ov [] [] w4;rw[append_nil,append_nil] at h3;have h4:bu (cY [w]) (cY [v]):=by
   unfold bu cY;rw[flatMap_singleton,flatMap_singleton,h3];exact hl
  exact absurd (mw h h4) (jl _)):p:=h
theorem DD(h:p:=by
  refine af [4] ?_;refine aM [] ?_;first|exact⟨rfl,rfl⟩|(refine⟨vi ?_,rfl⟩;unfold qe;simp_all;done)|(refine⟨vi ?_,rfl⟩;unfold qe;split<;>(try split)<;>simp_all<;>omega)):p:=h
theorem yq(h:p:=by
  refine an 90 [4] ?_;refine aM [] ?_;refine⟨vb ?_,rfl⟩;unfold eE jt;simp_all;all_goals (try (intros;omega))):p:=h
theorem XT(h:p:=by
  have uO:p.1∈ts:=(by rw[←hr.keys];exact mem_map_of_mem fD)
  refine⟨uO,?_⟩;rw[hr.at uO];have fw:∀(j:Nat) (p':Oper),k≤j→ops[j]?=some p'→p'.dst≠some p.1:=fun j p' hj wq ji=>by
   obtain⟨e1,tH,jd,jU⟩:=FQ (by simpa using AZ) wq ji uO;have:=(xx hp Ap).1 e1 tH jd;omega
  have h5:=k0.later (q:=p.1) (fun p' uP=>by
   rw[←jj] at uP;obtain⟨j,hj,rfl⟩:=mem_iff_getElem.1 uP;refine fw (k+1+j) _ w4 ?_;rw[←Array.getElem?_toList,←getElem?_drop,getElem?_eq_getElem hj])
  rw[h5,gh,if_neg (fun e1:t=p.1=>fw k o (Nat.le_refl _) Ap (by rw[←e1];exact hd))]):p:=h
theorem NY(h:p:=by
  refine⟨vb ?_,rfl⟩;unfold eE jt;simp_all;all_goals (try (intros;omega))):p:=h
theorem XU(h:p:=by
  unfold cX;rw[if_neg (by show ¬((5:Int)<1∨(5:Int)>9);decide),if_neg (fun e=>e hg.2.2.2.2),if_neg];have h1:=Pa.BC w;have h2:=Pa.BD e;have hs:Pa.nU (cx c e w)=[[⟨#[85,80,68,65,84,69]⟩,⟨#[116]⟩,⟨#[83,69,84]⟩,c].map Pa.bE,[Pa.dS ⟨#[61]⟩],Pa.qQ e,Pa.j6 w].flatten:=by
   unfold Pa.nU;rw[if_neg lq,if_neg lq,if_neg lq,if_neg lq,if_pos (vB c e w)];rfl
  rw[hs];simp only[flatten_cons,flatten_nil,length_append,length_map,length_cons,length_nil];omega):p:=h
theorem z46(h:p:=by
  refine aM [] ?_;exact⟨rfl,rfl⟩
  ):p:=h
theorem XV(h:p:=by
  have key:∀k,k≤8→gF ((lM u).take k)=u/256 ^ (8-k):=by
   intro k;induction k with
   | zero=>intro _;show 0=u/256 ^ 8;exact(Nat.div_eq_of_lt h).symm
   | succ k ih =>
    intro hk;have hb:=ih w4;rw[←FR w4,za,hb];unfold xS;rw[UInt8.toNat_ofNat',show 8-k=(7-k)+1 by omega,show 8-(k+1)=7-k by omega,Nat.pow_succ,←Nat.div_div_eq_div_mul];have:=Nat.div_add_mod (u/256 ^ (7-k)) 256;omega
  have:=key 8 (Nat.le_refl _);rw[take_of_length_le (by rw[xu];omega)] at this;rw[this];simp):p:=h
theorem HR(h:p:=by
  refine aM [] ?_;rw[aW];exact⟨rfl,fun h=>by dsimp only at h;omega⟩):p:=h
theorem z49(h:p:=by
  refine an 69 [4] ?_;refine aM [_] ?_;first|exact gE.cast (gE.mk (g:=cO) (e:=35) (sz:=5) (ls:=[(⟨kk,ux n s,⟨#[]⟩⟩:aK)]) (bQ (ls:=[(⟨kk,ux n s,⟨#[]⟩⟩:aK)]) (Nat.le_refl _) (show 1≤maxLen by decide))) (by rw[wR,lO,if_pos w4];unfold sR;rw[show kk=1 by omega])|exact gE.cast (gE.mk (g:=cO) (e:=35) (sz:=5) (ls:=[(⟨kk,bw,sS (j:Int)⟩:aK)]) (bQ (ls:=[(⟨kk,bw,sS (j:Int)⟩:aK)]) (Nat.le_refl _) (show 1≤maxLen by decide))) (by rw[wR,lO,if_neg w4,if_pos w4];unfold xE;rw[hj,show kk=2 by omega])):p:=h
theorem XW(h:p:=by
  have hr:fp l (cx c e w)=(l.set 0 (dH l[0] (cx c e w)).1,(([],(dH l[0] (cx c e w)).2.1),(dH l[0] (cx c e w)).2.2)):=by
   unfold fp;have ha:aU l (cx c e w).table=0:=uy h;have ic:l.getD (0:Int).toNat (gM (cx c e w))=l[0]:=(by show l.getD 0 _=_;rw[getD_eq_getElem?_getD,getElem?_eq_getElem h0];rfl)
   rw[if_neg lq,ha,if_neg w4,if_neg lq,if_neg lq,if_pos (vB c e w),ic];rfl
  refine⟨?_,hr⟩;unfold gA;rw[if_neg (fun e=>e hc),if_neg lq,hr]):p:=h
theorem z51(h:p:=by
  refine bp [2] ?_;refine eZ ?_;refine⟨vb ?_,rfl⟩;rw[Bool.eq_iff_iff];simp[xm];first|done|omega):p:=h
theorem XX(h:p:=by
  refine OD.perm (ez (A:=[])) ?_;refine an 29 [3,8,9,10] ?_;refine cc [3,8,9,10] ?_;refine⟨((i+1),Wi,Wj,XY),_,cr,(aJ (h:=by repeat (first|exact trivial|refine⟨(by (repeat (first|exact fP|(apply gi;focus (first|rfl|(simp;done)|(congr 2;omega)|(apply eP;first|exact JC aa w4|exact I3 aa w4)|(apply eP;rfl)|(apply eP;simp;done)))|(apply fU;focus rfl)));done),?_⟩))),w4,(bn.cast Wl (by first|exact JC aa w4|exact I3 aa w4)),rfl⟩):p:=h
theorem z53(h:p:=by
  refine⟨vs ?_,rfl⟩;have A3:k=s.size∨6≤k:=(by omega)
  have Mn:min k s.size=k:=Nat.min_eq_left hk;simp only[length_map,length_take,kJ,Mn] at *;unfold xF zV;first|(rw[if_pos w4];done)|(rw[if_neg w4,RJ hk A3 h6])):p:=h
theorem XZ(h:p:=by
  have hF:¬((bC t.ay s.set)=0∧(dG t.ay (rowAt t ((aq t s.aj).1[k]'aa)) s.bJ).1.k=0):=(by first|exact fun h=>(show ¬(dG t.ay (rowAt t ((aq t s.aj).1[k]'aa)) s.bJ).1.k=0 from by simpa using jb) h.2|exact fun h=>absurd h.1 (by simpa using An))
  have oe:(eX t (bC t.ay s.set) s.bJ [] (aq t s.aj).1)=eX t (bC t.ay s.set) s.bJ (acc++[(dG t.ay (rowAt t ((aq t s.aj).1[k]'aa)) s.bJ).1]) ((aq t s.aj).1.drop (k+1)):=(by rw[uQ,jj,eX,if_neg hE,if_neg hF])
  refine CD.skip ?_;refine⟨_,aJ,oe,rfl⟩):p:=h
theorem HS(h:p:=by
  skip;obtain⟨hz,_⟩:=rZ aL;obtain rfl:=length_eq_zero_iff.1 hz;refine af [2] ?_;refine aM [] ?_;exact⟨none,0,rfl,.inl ⟨rfl,rfl,rfl,rfl,rfl⟩⟩):p:=h
theorem DE(h:p:=by
  refine aO 0 [_,_,_] sizeOf33 ?_;refine an 35 [4,5] ?_;refine aM [] ?_;refine⟨?_,rfl⟩;unfold uz;simp_all[bw]):p:=h
theorem X3(h:p:=by
  have ht:cy ⟨#[116]⟩=0:=(by decide +kernel)
  refine⟨⟨⟨Nat.zero_le _,Nat.zero_le _,Nat.zero_le _,hw.l,wu⟩,Pa.small ht,(fun _ h=>by cases h),(fun _ h=>by cases h),Nat.zero_le _,Pa.small hc,(fun _ h=>by cases h),hw.b,NZ⟩,by show(1:Int)≤5;decide,by show(5:Int)≤6;decide,AN,Pa.wS ht ?_ aC⟩;show(if cy c=0 then (if gN e=0 then Pa.ny w else gN e) else cy c)=0;rw[if_pos hc,if_pos he,hw.f]):p:=h
theorem N0(h:p:=by
  refine af [2] ?_;refine aM [] ?_;refine⟨vi ?_,rfl⟩;try simp only[Qe] at *
  simp only[cy];first|(rw[if_pos w4];done)|(rw[if_neg w4];cases h1:oB s<;>cases h2:vw.any (jt s)<;>simp_all)):p:=h
theorem z59(h:p:=by
  refine aM _ ?_;first|exact⟨rfl,_,LO,rfl⟩|exact⟨rfl,_,FT qX oP X4,rfl⟩|exact⟨rfl,_,FT qX oP (QD qX oP w4),rfl⟩):p:=h
theorem X5(h:p:=by
  obtain⟨v1,v2,v3⟩:=hv;obtain⟨g1,dc⟩:=zW g hi (c:=0) w7 v2 v1 fun _=>⟨v3,hd⟩
  obtain⟨q0,q1,q2⟩:=dc i hi;obtain⟨p1,p2,_⟩:=g1.row _ q1 q2;rw[←fV q1] at p1 p2;obtain⟨_,_,_,_,a5,_⟩:=oZ p1 p2;obtain⟨i0,i1,i2⟩:=hi;have h4:=oE (g.row _ i1 i2).1;rw[a5,vk i0 i0 i1,if_pos rfl,B6 (by rw[fV i1];exact h4)]):p:=h
theorem yt(h:p:=by
  refine af [2] ?_;refine eZ ?_;rw[aW];exact⟨rfl,rfl⟩):p:=h
theorem X6(h:p:=by
  have hC:0≤p.kids[i]∧(p.leaf=false→p.kids[i]<many):=⟨by have hx:=of_decide_eq_false LP;omega,fun hl=>by first|(rw[hl] at Gz;cases Gz;done)|(have hx:=of_decide_eq_false fM;omega)⟩
  refine cc [1,2,113,114,115] ?_;refine⟨(i+1),_,cr,aJ,w4,(fun j hj hl=>by rcases Nat.lt_or_ge j i with h|h;exact lN j h hl;obtain rfl:j=i:=w4;exact hC),rfl⟩):p:=h
theorem X7(h:p:=by
  have fk:j=a∨Rc cF Lt (lP[j-1]'rf) (lP[j]'rh):=(by first|exact .inr (Gc ha (ae3 hj (by have q:=of_decide_eq_true qY;omega) rh rf hq) w4)|exact .inl (by have q:=of_decide_eq_false qY;omega))
  refine cc [0,1,2,3,8] ?_;refine⟨((i+1),lP),_,cr,aJ,(fun _=>ac0 ht hj w4 w4 fk),w4,w4,w4,Ao,rfl⟩):p:=h
theorem X8(h:p:=by
  obtain⟨D,d1,d2⟩:=Kn (bZ t) t.ix [] g.d (zb g) fun i hi=>⟨(mS g i).1 hi,not_mem_nil⟩
  have d3:∀i,i∈D↔i∈bZ t:=fun i=>(d2 i).trans bj;refine⟨D,d1,d3,eq_nil_iff_forall_not_mem.2 fun x hx=>?_⟩;obtain⟨x0,xd,x1,x2,_⟩:=d1.gj x hx;exact xd ((d3 _).2 ((mS g _).2 ⟨x0,x1,x2⟩))):p:=h
theorem X9(h:p:=by
  refine aO 0 [_,_,_] sizeOf170 ?_;refine an 14 [2] ?_;refine aM [] ?_;refine⟨?_,rfl⟩;unfold Aq;first|(rw[if_neg mg,if_neg yu,show((j:Nat):Int).toNat=j from rfl,getD_eq_getElem?_getD,getElem?_eq_getElem hj];rfl)|(rw[if_pos yh];rfl)|(rw[if_neg yh,if_pos wi];rfl)):p:=h
theorem uR(h:p:=by
  refine aM [] ?_;rw[aW];exact⟨rfl,rfl⟩
  ):p:=h
theorem Ya(h:p:=by
  have oI:vs[i].k≠l[i].k∧(i=0∨vs[i].k≠0):=(by first|(simp at *;omega)|(constructor<;>simp_all<;>omega))
  have hf:l7 i l[i] vs[i]=4:=(by unfold l7;rw[if_neg hz,if_pos oI])
  have aW:dQ l vs=4:=(by rw[hinv,RL Mo aa (by rw[hf];decide),hf])
  refine af [4] ?_;refine eZ ?_;rw[aW];exact⟨rfl,rfl⟩):p:=h
theorem Yb(h:p:=by
  have oI:¬(0≤p.kids[i]∧(p.leaf=false→p.kids[i]<many)):=fun hk=>by obtain⟨k1,k2⟩:=hk;first|(have hx:=of_decide_eq_true LP;omega)|(have:=k2 (by simpa using Gz);have hx:=of_decide_eq_true fM;omega)
  refine af [4] ?_;refine eZ ?_;refine⟨vb (Fq fun hp=>?_),rfl⟩;exact oI (ae4 hp aa)):p:=h
theorem Yc(h:p:=by
  refine an 70 [1,2,11,35,36,37] ?_;refine cc [1,2,11,35,36,37] ?_;refine⟨((k+1),(acc++[(L[k]'aa).2]),(some ⟨ri,0,none⟩),rP,[⟨ri,3,rP*1,flatMap Tw.cI ((acc)++[(L[k]'aa).2])⟩]),_,cr,aJ,w4,HG,oe,(bn.cast (bQ G1 G2) lu),rfl⟩):p:=h
theorem z70(h:p:=by
  have oF:¬(vs[i].k≠l[i].k∧(i=0∨vs[i].k≠0)):=(by first|(simp_all;done)|omega|(simp at *;omega))
  have hf:l7 i l[i] vs[i]=0:=(by unfold l7;rw[if_neg hz,if_neg oF])
  have jv:=hinv.trans (abq Mo aa hf);refine cc [0,19,20,21] ?_;refine⟨(i+1),_,cr,aJ,w4,jv,rfl⟩):p:=h
theorem Yd(h:p:=by
  refine cc [1,3,33,34,35] ?_;refine⟨(i+1),_,cr,(aJ (h:=by repeat (first|exact trivial|refine⟨(by (repeat (first|exact fP|(apply gi;focus (first|rfl|(rw[Fs,if_neg Ar];rfl)|(rw[Fs,if_pos Ar];rfl)|(simp;done)|(congr 2;omega)))|(apply fU;focus rfl)));done),?_⟩))),w4,rfl⟩):p:=h
theorem z72(h:p:=by
  refine aO 0 [_,_,_] sizeOf33 ?_;refine an 42 [8,9] ?_;refine aM [⟨br,43,1,[au 3 cV row]⟩,⟨bc,29,1,[au 2 cC l]⟩] ?_;rw[aW];exact⟨rfl,rfl⟩):p:=h
theorem Ye(h:p:=by
  refine JD (zc g.ix.val) ?_ fun x=>?_
  ·rw[pairwise_map];exact hp
  rw[mem_map];constructor
  ·intro hx;obtain⟨x0,x1,x2,x3⟩:=g.gj x hx;exact⟨x.2,(hL _).2 ⟨x0,x1,x2⟩,by rw[fV x1,←x3]⟩
  rintro⟨i,hi,rfl⟩;exact((hL i).1 hi).gj g):p:=h
theorem HT(h:p:=by
  refine OD.perm (ez (A:=[])) ?_;refine an 8 [2] ?_;refine aM S7 ?_;exact⟨_,_,rfl,qp⟩
  ):p:=h
theorem z75(h:p:=by
  refine fB ?_;refine OD.iC iJ rfl rfl rfl call31 (fE) ⟨ot,ot,trivial⟩ ?_;refine an 31 [1,10,11,12,29] ?_;refine av ?_ ?_<;>intro cm cR
  ·exact absurd cm (by (simp at cm;omega))
  refine cc [1,10,11,12] ?_;refine⟨(i+1),_,cr,aJ,w4,rfl⟩):p:=h
theorem z76(h:p:=by
  refine⟨int_lt hv ov kv sv hw ow kw sw,fun h=>?_⟩;have hl:fu v w<0:=(FP v w).2 (.inr ⟨by omega,.inl h⟩);have h3:=Km hv ov hw ow [] [] w4;rw[append_nil,append_nil] at h3;unfold bu cY;rw[flatMap_singleton,flatMap_singleton,h3];exact hl):p:=h
theorem yw(h:p:=by
  refine aM [] ?_;rw[fk];exact⟨rfl,rfl⟩):p:=h
theorem N1(h:p:=by
  skip;refine bp [1,33] ?_;refine eY ?_;refine af [2] ?_;refine eZ ?_;exact⟨vi (P4 w4).symm,rfl⟩):p:=h
theorem Yf(h:p:=by
  show(t.rows.set i.toNat ((rowAt t i).set c v)).getD j.toNat []=_;rw[getD_eq_getElem?_getD];by_cases h:j=i
  ·subst h;rw[if_pos rfl,getElem?_set_self hl];rfl
  rw[if_neg h,getElem?_set_ne w4,←getD_eq_getElem?_getD];rfl):p:=h
theorem z80(h:p:=by
  refine aO 0 [_,_,_] sizeOf33 ?_;refine an 29 [2] ?_;refine aM [] ?_;refine⟨?_,rfl⟩;unfold pW bw;simp_all):p:=h
theorem Yg(h:p:=by
  unfold fu cmpL gB gB gB gB;rcases sH v.k w.k with h1|h1|h1<;>rcases sH v.n w.n with h2|h2|h2<;>rcases Ft v.s.data.toList w.s.data.toList with h3|h3|h3
  all_goals (rw[h1.1,h2.1];first|rw[h3.1]|rw[h3])
  all_goals decide):p:=h
theorem Yh(h:p:=by
  have hC:¬((dU t.ay s.bJ).1≠(t.ay.getD (bC t.ay s.set).toNat ⟨⟨#[]⟩,0⟩).k∧(dU t.ay s.bJ).1≠0):=(by rw[ic];first|exact fun h=>h.2 (by simpa using cm)|exact fun h=>h.1 zX)
  refine CD.skip ?_;refine⟨_,aJ,hC,rfl⟩):p:=h
theorem Yi(h:p:=by
  have oN:¬(0≤s.iD∧s.iD<lz.length):=(by first|exact fun h=>mY h.2|(intro h;omega))
  refine CD.skip ?_;refine⟨_,aJ,lz,(by unfold uo vQ;rw[←nj,Int.toNat_natCast,←hM,←Wm,if_neg oN]),Wn,w4,rfl⟩):p:=h
theorem N2(h:p:=by
  refine an 135 [4,5] ?_;refine aM [] ?_;rw[aW];exact⟨[],none,0,[],rfl,iW,(fun o h=>by cases h),rfl,rfl⟩):p:=h
theorem z85(h:p:=by
  have ah7:¬(f.length≤100∧ff.length≤100):=(by simp_all;omega)
  refine af [6,7] ?_;refine CD.wk (Wk.ue (t:=6) (sz:=2) lk) ?_;refine N3 ?_;exact⟨by unfold xG;rw[if_pos hz,if_neg ah7];rfl,rfl⟩):p:=h
theorem DF(h:p:=by
  refine aM [] ?_;rw[fk];exact⟨rfl,rfl⟩
  ):p:=h
theorem z87(h:p:=by
  unfold cC;refine cf ?_;refine OD.box (ds:=[_,_]) ap rfl rfl ot rfl rfl (fun b2=>?_);refine an 8 [1,2] ?_;refine af [3] ?_;refine aM [⟨b,9,1,[aZ nm]⟩] ?_;exact⟨rfl,rfl⟩
  ):p:=h
theorem Yj(h:p:=by
  have iq:¬((jr a b i).k≠2∧(jr a b i).k≠0):=(by simp_all)
  refine cc [0,4,5,6,73,74] ?_;refine⟨(i+1),_,cr,aJ,w4,(JE (p:=fun v=>¬(v.k≠2∧v.k≠0)) fw iq),rfl⟩):p:=h
theorem Yk(h:p:=by
  have iq:¬((jr a b i).k≠1∧(jr a b i).k≠0):=(by simp_all)
  refine cc [2,3,4,6,14,15] ?_;refine⟨(i+1),_,cr,aJ,w4,(JE (p:=fun v=>¬(v.k≠1∧v.k≠0)) fw iq),rfl⟩):p:=h
theorem Yl(h:p:=by
  unfold fu cmpL gB gB gB gB;rcases sH a.k b.k with ⟨h1,h2⟩|⟨h1,h2⟩|⟨h1,h2⟩<;>rcases sH a.n b.n with ⟨k1,k2⟩|⟨k1,k2⟩|⟨k1,k2⟩<;>simp only[h1,k1]<;>(repeat' split)<;>omega):p:=h
theorem z91(h:p:=by
  refine bH ?_;refine cM [6,7] ?_;refine aR 6 ?_ (h:=by exact(dA rfl ot ot (Fu underlying4)));refine bH ?_;refine aM [] ?_;refine⟨?_,rfl⟩;unfold oC;simp_all):p:=h
theorem Ym(h:p:=by
  have ah8:¬((jr a b i).k=1∧(jr a b i).n=d):=(by simp_all)
  refine cc [2,3,4,6,30,31] ?_;refine⟨(i+1),_,cr,aJ,w4,(JE (p:=fun v=>¬(v.k=1∧v.n=d)) LS ah8),rfl⟩):p:=h
theorem z93(h:p:=by refine⟨_,(aJ (h:=by repeat (first|exact trivial|refine⟨(by (repeat (first|exact fP|(apply gi;focus (first|rfl|(rw[dx];done)|(simp;done)))|(apply fU;focus rfl)));done),?_⟩))),rfl⟩):p:=h
theorem Yn(h:p:=by refine⟨_,(aJ (h:=by repeat (first|exact trivial|refine⟨(by (repeat (first|exact fP|(apply gi;focus (first|rfl|(rw[ic];done)|(simp;done)))|(apply fU;focus rfl)));done),?_⟩))),rfl⟩):p:=h
theorem Yo(h:p:=by
  skip;obtain⟨hz,_⟩:=rZ aL;obtain rfl:=length_eq_zero_iff.1 hz;refine af [2] ?_;refine CD.wk (Wk.ue (t:=2) (sz:=1) lk) ?_;refine aM [] ?_;exact⟨rfl,rfl⟩):p:=h
theorem Yp(h:p:=by
  refine af [4] ?_;refine aM [] ?_;first|exact⟨vi (Fv hn).symm,rfl⟩|exact⟨vi (E8 hz wi).symm,rfl⟩|exact⟨vi (Ko hz wi).symm,rfl⟩):p:=h
theorem Yq(h:p:=by
  rw[←jj] at fD;obtain⟨j,hj,rfl⟩:=mem_iff_getElem.1 fD;refine lA (k+1+j) _ w4 ?_;rw[←Array.getElem?_toList,←getElem?_drop,getElem?_eq_getElem hj]):p:=h
theorem Yr(h:p:=by
  refine af [4] ?_;refine eZ ?_;refine⟨vi ?_,rfl⟩;unfold aN;first|(rw[CR] at Yt;cases fA:p.leaf<;>simp_all;done)|(simp_all;done)|(simp_all;omega)):p:=h
theorem N4(h:p:=by
  refine af [2,3] ?_;refine aM [] ?_;first|(rw[aW];exact⟨none,0,rfl,iW⟩)):p:=h
theorem CS(h:p:=by refine⟨_,aJ,_,(by unfold zeroV;simp_all),rfl⟩):p:=h
theorem Mp(h:p:=by
  refine af [2] ?_;refine aM [] ?_;exact⟨by first|rw[aW]|rw[aW];rfl,rfl⟩):p:=h
theorem Wo(h:p:=by
  rcases Qf v w with e|e|e
  ·rw[e];exact Lg hv ov hw ow x y e
  ·exact absurd e h
  rw[e,Kp,Lg hw ow hv ov y x (by rw[BE,e])];rfl):p:=h
theorem Wp(h:p:=by
  have g6:=po.leaf;have g7:=fun h=>(po.node h).1;cases fA:(t.ag[i]'aa).leaf with
  | true=>have:=g6 fA;omega
  | false=>have:=g7 fA;omega):p:=h
theorem Wq(h:p:=by
  refine cc [0,1,5] ?_;refine⟨(i+1),_,cr,aJ,w4,(by rw[take_succ_eq_append_getElem aa,take_succ_eq_append_getElem s5,HU,Yu]),rfl⟩):p:=h
theorem z105(h:p:=by
  rw[map_set,hn];have:l[i].nm=(l.map az.nm)[i]'(by rw[length_map];exact hi):=(by rw[getElem_map])
  rw[this,set_getElem_self]):p:=h
theorem Wr(h:p:=by
  unfold cg at h;rw[if_neg w4,if_neg w4,if_pos hk] at h;split at h
  ·cases h
  exact BF w4):p:=h
theorem z107(h:p:=by
  have h2:=y7 b [c];rw[singleton_append] at h2;rw[h2];have:gF [c]=c.toNat:=(by simp[gF])
  rw[this]):p:=h
theorem Ws(h:p:=by
  unfold cg at h;rw[if_neg w4,if_neg w4,if_neg w4,if_pos hk] at h;split at h
  ·cases h
  omega):p:=h
theorem z109(h:p:=by refine⟨_,aJ,_,iB,rfl⟩):p:=h
theorem Mq(h:p:=by
  refine aM [] ?_;refine⟨?_,rfl⟩;first|rfl|(simp;done)
  ):p:=h
theorem Wt(h:p:=by refine⟨((((i+j)/2)+1),j),_,cr,aJ,w4,w4,w4,(.inr ⟨by omega,by omega,by exact uE⟩),fF,rfl⟩):p:=h
theorem Wu(h:p:=by
  unfold cg at h;rw[if_neg w4,if_pos hk] at h;split at h
  ·cases h
  exact BF w4):p:=h
theorem Wv(h:p:=by
  obtain⟨t',h3,h4⟩:=(xx hp wq).2;rw[ji] at h3;obtain rfl:=Option.some.inj h3;exact h4 k o hj Ap hd):p:=h
theorem Ww(h:p:=by
  unfold my;rw[mk_data,getD_eq_getElem?_getD,getElem?_eq_getElem w4];exact getElem_mem _):p:=h
theorem Wx(h:p:=by
  rw[qf] at pE;rcases mem_cons.1 pE with rfl|pE
  ·exact .inl (tU _ _)
  exact m.Ve x pE):p:=h
theorem z116(h:p:=by
  have fk:dQ l=1:=if_pos w4;refine af [2] ?_;refine eZ ?_;rw[fk];exact⟨rfl,rfl⟩):p:=h
theorem z117(h:p:=by
  refine aM [⟨br,43,1,[au 3 cV row]⟩,⟨bc,29,1,[au 2 cC l]⟩] ?_;rw[aW];exact⟨rfl,rfl⟩
  ):p:=h
theorem Wy(h:p:=by refine⟨(i,((i+j)/2)),_,cr,aJ,w4,w4,w4,ei,(.inr ⟨by omega,by omega,A4⟩),rfl⟩):p:=h
theorem z119(h:p:=by
  refine CD.skip ?_;have ah9:l1=l:=ac1 Mr w4;rw[ah9];refine⟨_,aJ,rfl⟩):p:=h
theorem Ms(h:p:=by
  refine dY 2 ?_;refine OD.lY (f:=120) (args:=[_,_]) (all:=[_,_]) (Sf:=[]) ap rfl rfl ot call120 (zY a 2) rfl ⟨ot,bP,trivial⟩ (fg _) ?_;rintro _ _ ⟨rfl,rfl⟩;refine aH 1 ?_;refine bY 68 (fun ajJ aia=>?_) (fun ajJ aia=>?_)
  ·refine aH 2 ?_;refine OD.lY (f:=120) (args:=[_,_]) (all:=[_,_]) (Sf:=[]) iJ rfl rfl ot call120 (zY b 2) rfl ⟨ot,bP,trivial⟩ (fg _) ?_;rintro _ _ ⟨rfl,rfl⟩;exact HO
  refine an 76 [11,12] ?_;refine af [12,74] ?_;refine eY ?_;exact AX):p:=h
theorem Wz(h:p:=by
  refine CD.seq ?_;refine tJ 11 10 [5,7,31] ?_;refine cN (kH G n 40 gI gJ w7) ?_;refine cN (RM ⟨n,ev n 40-20,s⟩ gd) ?_;refine pF ?_;refine jP ?_;refine⟨rfl,fun b7=>?_⟩;refine aO 0 [_,_,_] sizeOf33 ?_;refine an 69 [5,7] ?_;refine aB 2 ?_;refine ec call40 (Ge (pW ⟨n,ev n 40-20,s⟩).s 4 w4) ?_;refine aH 1 ?_;refine aO 0 [_,_,_] sizeOf9 ?_;refine an 69 [5,7] ?_;refine aB 3 ?_;refine eD (cq 0 [_]) [.int .i64 0,.int .i64 0,.int .i64 0,.string ⟨#[]⟩,.string ⟨#[]⟩] [_,_,_,_,_] zeroValue35 runUnderlying36 sizeOf35 (fun DG=>?_);exact z22):p:=h
theorem WA(h:p:=by
  refine dY 2 ?_;refine OD.lY (f:=120) (args:=[_,_]) (all:=[_,_]) (Sf:=[]) ap rfl rfl ot call120 (zY a 1) rfl ⟨ot,bP,trivial⟩ (fg _) ?_;rintro _ _ ⟨rfl,rfl⟩;refine aH 1 ?_;refine bY 40 (fun Mt LU=>?_) (fun Mt LU=>?_)
  ·refine aH 2 ?_;refine OD.lY (f:=120) (args:=[_,_]) (all:=[_,_]) (Sf:=[]) iJ rfl rfl ot call120 (zY b 1) rfl ⟨ot,bP,trivial⟩ (fg _) ?_;rintro _ _ ⟨rfl,rfl⟩;exact HO
  refine an 76 [11,12] ?_;refine af [12,74] ?_;refine eY ?_;exact AX):p:=h
theorem WB(h:p:=by
  refine AD.one (i:=10) aC ?_;refine qq call90 (mq (t.ag[i]'aa).high w4) ?_;refine dj 13 rfl (oY (pl:=[(0,_),(1,_),(2,_),(3,_),(4,_)]) (ds:=[_,_,_,_,_]) rfl zeroValue146 runUnderlying146 PS ⟨rfl,ot,rfl,ot,rfl,ot,rfl,ot,rfl,ot,trivial⟩ rfl rfl) ?_;refine AD.one (i:=14) aC ?_;refine nJ (cq 0 [_]) [.bool false,.slice none 0 0,.slice none 0 0,.slice none 0 0,.int .i64 0] [_,_,_,_,_] zeroValue146 runUnderlying73 sizeOf146 (fun A5=>?_);refine nK 0 46 5 1 ?_;exact z5):p:=h
theorem z124(h:p:=by
  refine fB ?_;refine bp [3] ?_;refine af [52] ?_;refine av ?_ ?_<;>intro fM gW
  ·exact z12
  exact z12):p:=h
theorem G3(h:p:=by
  refine af [4,5,6] ?_;refine CD.wk (Wk.ue (t:=4) (sz:=1) lk) ?_;refine CD.wk (Wk.ue (t:=5) (sz:=1) lk) ?_;exact oO):p:=h
theorem WD(h:p:=by
  refine dY 3 ?_;refine OD.lY (f:=120) (args:=[_,_]) (all:=[_,_]) (Sf:=[]) ap rfl rfl ot call120 (zY a b) rfl ⟨ot,ot,trivial⟩ (fg _) ?_;rintro _ _ ⟨rfl,rfl⟩;refine aH 1 ?_;refine bY 57 (fun uA Cx=>?_) (fun uA Cx=>?_)
  ·refine an 76 [11,12] ?_;refine af [12,74] ?_;refine gq ?_;exact AX
  exact HO):p:=h
theorem z127(h:p:=by
  refine mF 7 rfl ?_;refine mF 8 rfl ?_;refine mF 9 rfl ?_;refine dZ.later rfl ?_;refine AD.one (i:=10) aC ?_;refine bD.skip rfl (mP rfl rfl rfl lk jC) rfl ?_;refine dj 11 rfl vM ?_;refine dj 12 rfl bI ?_;exact z6):p:=h
theorem G4(h:p:=by
  skip;refine bp [1,2,39] ?_;refine eY ?_;refine af [4] ?_;refine eZ ?_;exact z7):p:=h
theorem WE(h:p:=by
  have cm:(dP (mv key) (bq.take 2))<0∨(dP ij (bq.take 2))<0:=(by first|omega|(simp_all;omega)|simp_all)
  have mZ:nB key bq nt (lo,hi)=(lo,hi):=(by unfold nB;rw[vv vP,if_neg sZ,if_pos cm])
  rw[mZ] at aW;exact z37):p:=h
theorem z130(h:p:=by
  refine af [2] ?_;refine eZ ?_;exact XR):p:=h
theorem z131(h:p:=by
  refine aH 4 ?_;refine ec call121 (BQ _) ?_;exact z8):p:=h
theorem WG(h:p:=by
  refine cf ?_;refine OD.alloc (ds:=[_,_,_]) ap rfl rfl zeroValue170 rfl (fun b2=>?_);refine an 5 [0,2] ?_;refine aB 2 ?_;refine aO 0 [_,_,_] sizeOf170 ?_;refine an 5 [2] ?_;exact z46):p:=h
theorem WH(h:p:=by
  refine af [52] ?_;refine av ?_ ?_<;>intro fM gW
  ·refine af [2] ?_;refine aM [] ?_;exact NU
  refine af [2] ?_;refine aM [] ?_;exact NU):p:=h
theorem WI(h:p:=by
  refine VC.body func64 rfl ntmps64 aQ fun X0 w0 bf=>?_;refine af [0,1] ?_;refine aB 2 ?_;refine bV (ZO rfl ot ot func117 aC aC aC aC) ?_;refine an 8 [4] ?_;exact z46):p:=h
theorem As(h:p:=by
  refine af [2] ?_;refine eZ ?_;exact z24):p:=h
theorem WJ(h:p:=by
  have hf:nE (l.take i) l[i]=2:=(by unfold nE;rw[if_neg gH,if_pos w4])
  have aW:fW l=2:=(by rw[hinv,JF aa (by rw[hf];decide),hf])
  exact yt):p:=h
theorem CT(h:p:=by
  refine af [2] ?_;refine aM [] ?_;exact XR):p:=h
theorem z138(h:p:=by
  have fk:qb a b=true:=BR (by rw[take_of_length_le w4,take_of_length_le w4] at HU;exact HU);refine af [4] ?_;exact DF):p:=h
theorem z139(h:p:=by
  refine OD.perm (ez (A:=[])) ?_;refine an 8 [2] ?_;refine CD.iE (t:=2) (Sq:=S7) lk qp (cz pX _) (dI (A:=[])) ?_;exact z46):p:=h
theorem WK(h:p:=by
  skip;refine bp [1,14] ?_;refine av ?_ ?_<;>intro cm cR
  ·refine af [2] ?_;exact DB
  exact XJ):p:=h
theorem z141(h:p:=by
  refine af [4,5] ?_;exact HR):p:=h
theorem WL(h:p:=by
  skip;refine aH 5 ?_;refine bY 17 (fun xT xH=>?_) (fun xT xH=>?_)
  ·exact z51
  exact z51):p:=h
theorem z143(h:p:=by
  skip;have fk:qb a b=false:=Kq fun e=>by rw[e] at aL;simp at aL
  refine af [4] ?_;exact yw):p:=h
theorem WM(h:p:=by
  skip;refine bp [1,2,71] ?_;refine eY ?_;refine af [4] ?_;refine eZ ?_;exact z7):p:=h
theorem z145(h:p:=by
  refine AD.one (i:=15) aC ?_;refine bD.iC rfl iJ rfl rfl rfl call155 (TK t.s 156 xI call156 RN hs) ⟨ot,tV,trivial⟩ ?_;refine dj 19 rfl qs ?_;refine dj 20 rfl xU ?_;exact z124):p:=h

end Go.Proofs.YtkgmonfgofobaaaGreatDoor
namespace Go.Proofs.YtkgmonfgofobaaaGreatDoor.V
open List
open Go.RowKit
variable {L X:Nat→Prop} {w':World} {b i k n off o' cap sz j m h' tt bytes:Nat} {I:Array Field} {v u:Value} {e t:TypeId} {y fo:Operand} {a:Act} {cur:Array Value} {lo hi:Option Operand} {ts:Array TypeId} {ad:Option Addr} {ps:Array (Nat×Operand)} {de:Array Operand}
inductive D where
 | v (x:Value)
 | list (sz:Nat) (cs:List D) (len:Nat)
 | fQ (cs:List D) (off:Nat)
 | agg (cs:List D)
 | dD (cs:List D)
 | eH (f:Fn) (cs:List D)
 | kz (l:Nat) (os:List (Nat×Obj))
 | bX
 deriving Inhabited
variable {ds cs':List D} {l:List (Nat×D)}
inductive cn (w:World) (L:Nat→Prop):D→Value→Prop
 | v (x:Value):cn w L (.v x) x
 | mB (sz:Nat) (ad:Option Addr) (cap:Nat):cn w L (.list sz [] 0) (.slice ad 0 cap)
 | list (sz:Nat) (cs:List D) (len b o cap:Nat) (f:Nat→Value) (hl:cs.length=len*sz) (h1:len≤cap) (h2:cap≤maxLen) (hb:b<w.heap.size) (hL:¬L b)
   (hc:∀i,i<cs.length→w.cell? ⟨b,o+i,none⟩=some (f i)) (hr:∀i (h:i<cs.length),cn w L cs[i] (f i)):cn w L (.list sz cs len) (.slice (some ⟨b,o,none⟩) len cap)
 | fQ (cs:List D) (off b o:Nat) (f:Nat→Value) (hb:b<w.heap.size) (hL:¬L b)
   (hc:∀i,i<cs.length→w.cell? ⟨b,o+i,none⟩=some (f i)) (hr:∀i (h:i<cs.length),cn w L cs[i] (f i)):cn w L (.fQ cs off) (.pointer (some ⟨b,o+off,none⟩))
 | agg (cs:List D) (vs:List Value) (hl:vs.length=cs.length) (hr:∀i (h:i<cs.length) (h':i<vs.length),cn w L cs[i] vs[i]):cn w L (.agg cs) (.agg vs.toArray)
 | dD (cs:List D) (vs:List Value) (hl:vs.length=cs.length) (hr:∀i (h:i<cs.length) (h':i<vs.length),cn w L cs[i] vs[i]):cn w L (.dD cs) (.tuple vs.toArray)
 | eH (fn:Fn) (cs:List D) (vs:List Value) (hl:vs.length=cs.length) (hr:∀i (h:i<cs.length) (h':i<vs.length),cn w L cs[i] vs[i]):cn w L (.eH fn cs) (.func fn #[] vs.toArray)
 | kz (l:Nat) (os:List (Nat×Obj)) (h:∀z∈os,z.1<w.heap.size∧¬L z.1∧w.heap[z.1]?=some z.2):cn w L (.kz l os) (.func (.yield l) #[] #[])
 | bX (x:Value):cn w L .bX x
theorem cn.nil{w:World}(sz:Nat):cn w L (.list sz [] 0) (.slice none 0 0):=.mB sz none 0
theorem rC{w:World}(hb:b<w.heap.size)(h:w'.heap[b]?=w.heap[b]?):b<w'.heap.size:=by
 rcases Nat.lt_or_ge b w'.heap.size with h'|h'
 ·exact h'
 rw[Array.getElem?_eq_none h',Array.getElem?_eq_getElem hb] at h;cases h
theorem cn.mono{w:World}{I:Nat→Prop}{d:D}(h:cn w L d v)(H:∀b,b<w.heap.size→¬L b→w'.heap[b]?=w.heap[b]?∧¬I b):cn w' I d v:=by
 induction h with
 | v x=>exact .v x
 | mB sz ad cap=>exact .mB sz ad cap
 | list sz cs len b o cap f hl h1 h2 hb hL hc hr ih =>
  have E:=H b hb hL;exact .list sz cs len b o cap f hl h1 h2 (rC hb E.1) E.2 (fun i hi=>(World.cell?_of_block (w:=w) (a:=⟨b,o+i,none⟩) E.1).trans (hc i hi)) ih
 | fQ cs off b o f hb hL hc hr ih =>
  have E:=H b hb hL;exact .fQ cs off b o f (rC hb E.1) E.2 (fun i hi=>(World.cell?_of_block (w:=w) (a:=⟨b,o+i,none⟩) E.1).trans (hc i hi)) ih
 | agg cs vs hl hr ih=>exact .agg cs vs hl ih
 | dD cs vs hl hr ih=>exact .dD cs vs hl ih
 | eH fn cs vs hl hr ih=>exact .eH fn cs vs hl ih
 | kz l os h =>
  refine .kz l os fun z hz=>?_;obtain⟨h1,h2,h3⟩:=h z hz;have E:=H z.1 h1 h2;exact⟨rC h1 E.1,E.2,E.1.trans h3⟩
 | bX x=>exact .bX x
structure ah where
 b:Nat
 e:TypeId
 size:Nat
 cs:List D
 deriving Inhabited
variable {S S' Sf R:List ah} {B:ah} {post:D→List ah→Prop}
def zK:TypeId:=1000003
def TL:TypeId:=1000004
def isMap(e:TypeId):Bool:=Nat.beq e zK||Nat.beq e TL
def Cy(cur:Array Value):Obj:=.map (cur.mapIdx fun i k=>⟨k,.agg #[],i⟩) cur.size
def Vf:Value→Nat
 | .int _ n=>n.toNat
 | _=>0
def WN:List Value→List MapEntry
 | k::v::b::r=>⟨k,v,Vf b⟩::WN r
 | _=>[]
def agL(cur:Array Value):Obj:=match cur.toList with
 | c::r=>.map (WN r).toArray (Vf c)
 | []=>.map #[] 0
def ob(e:TypeId)(cur:Array Value):Obj:=bif isMap e then (bif Nat.beq e TL then agL cur else Cy cur) else .cells cur e (0,0)
theorem kI(he:isMap e=false)(cur:Array Value):ob e cur = .cells cur e (0,0):=by rw[ob,he];rfl
theorem Vg(cur:Array Value):ob zK cur=Cy cur:=rfl
def LV(w:World)(L:Nat→Prop)(B:ah):Prop :=
 B.b<w.heap.size∧∃cur:Array Value,w.heap[B.b]?=some (ob B.e cur)∧cur.size=B.size∧B.cs.length≤B.size∧∀i (h:i<B.cs.length),∃u,cur[i]?=some u∧cn w L B.cs[i] u
def rI:Value→Bool
 | .tuple _=>false
 | _=>true
def ox(w:World)(b i:Nat):Value→Prop
 | .tuple vs=>∃t fz,w.heap[b]?=some (.cells vs t fz)
 | v=>w.cell? ⟨b,i,none⟩=some v
theorem ox.cell{w:World}(h:ox w b i v)(hv:rI v=true):w.cell? ⟨b,i,none⟩=some v:=by
 cases v<;>first|exact h|cases hv
theorem ox.of{w:World}(h:w.cell? ⟨b,i,none⟩=some v)(hv:rI v=true):ox w b i v:=by
 cases v<;>first|exact h|cases hv
theorem ox.on{w:World}(hb:w'.heap[b]?=w.heap[b]?)(h:ox w b i v):ox w' b i v:=by
 by_cases hv:rI v=true
 ·exact .of ((World.cell?_of_block (w:=w) (a:=⟨b,i,none⟩) hb).trans (h.cell hv)) hv
 cases v<;>first|exact absurd rfl hv|(obtain⟨t,fz,h⟩:=h;exact⟨t,fz,hb.trans h⟩)
theorem ox.lt{w:World}(h:ox w b i v):b<w.heap.size:=by
 by_cases hv:rI v=true
 ·exact World.block_lt_of_cell? w _ (h.cell hv)
 cases v<;>first|exact absurd rfl hv|(obtain⟨t,fz,h⟩:=h;exact(Array.getElem?_eq_some_iff.1 h).1)
theorem RO{vs:List Value}(h:vs.all rI=true)(hi:vs[i]?=some v):rI v=true:=all_eq_true.1 h v (mem_of_getElem? hi)
structure dK where
 X:Nat→Prop
 w0:World
 S0:List Nat
 G:List (Nat×List Value)
 df:List Deferred
 DH:Act→World→Prop
variable {C:dK}
structure St where
 n:Nat
 env:List (Nat×D)
 S:List ah
def look(t:Nat):List (Nat×D)→D
 | []=>.bX
 | (i,d)::r=>bif Nat.beq i t then d else look t r
theorem gh(t i:Nat)(d:D)(l:List (Nat×D)):look t ((i,d)::l)=if i=t then d else look t l:=by
 rw[look];by_cases e:i=t
 ·subst e;simp
 have:Nat.beq i t=false:=by
  cases h:Nat.beq i t with
  | false=>rfl
  | true=>exact absurd (Nat.eq_of_beq_eq_true h) e
 rw[this,if_neg e];rfl
def ax(S:List ah):List Nat:=S.map (·.b)
def live(X:Nat→Prop)(S:List ah)(b:Nat):Prop:=X b∨b∈ax S
structure Fr (w:World) (S:List Nat) (w':World) (S':List Nat):Prop where
 os:w'.os=w.os
 tape:w'.tape=w.tape
 output:w'.output=w.output
 size:w.heap.size≤w'.heap.size
 block:∀b,b<w.heap.size→b∉S→w'.heap[b]?=w.heap[b]?∧b∉S'
theorem Fr.refl(w:World)(S:List Nat):Fr w S w S:=⟨rfl,rfl,rfl,Nat.le_refl _,fun _ _ h=>⟨rfl,h⟩⟩
theorem Fr.trans{w1 E I:World}{S1 S2 S3:List Nat}(h:Fr w1 S1 E S2)(k:Fr E S2 I S3):Fr w1 S1 I S3 :=
 ⟨k.os.trans h.os,k.tape.trans h.tape,k.output.trans h.output,Nat.le_trans h.size k.size,fun b hb hn =>
  have h1:=h.block b hb hn;have h2:=k.block b (Nat.lt_of_lt_of_le hb h.size) h1.2
  ⟨h2.1.trans h1.1,h2.2⟩⟩
structure Own (w:World) (L:Nat→Prop) (S:List ah):Prop where
 at_:∀B∈S,LV w L B
 apart:(ax S).Nodup
structure bK (C:dK) (x:St) (a:Act) (w:World):Prop where
 defers:a.defers=C.df
 size:a.tmps.size=x.n
 env:∀t,t<x.n→cn w (live C.X x.S) (look t x.env) (a.tmps.getD t undef)
 own:Own w (live C.X x.S) x.S
 fr:Fr C.w0 C.S0 w (ax x.S)
 ex:∀b,C.X b→b<C.w0.heap.size∧b∉C.S0
 eV:∀g∈C.G,(g.1<C.w0.heap.size∧g.1∉C.S0∧¬C.X g.1)∧∀i v,g.2[i]?=some v→ox C.w0 g.1 i v
def St.put(x:St)(t:Nat)(d:D):St:=⟨x.n,(t,d)::x.env,x.S⟩
theorem bK.put{C:dK}{x:St}{a:Act}{w:World}(h:bK C x a w){t:Nat}{d:D}{v:Value}(hd:cn w (live C.X x.S) d v):bK C (x.put t d) (a.put (some t) v) w:=by
 refine⟨h.defers,by simp[Act.put,St.put,h.size],fun i hi=>?_,h.own,h.fr,h.ex,h.eV⟩;have hs:=h.size;simp only[St.put,gh,Act.put] at hi ⊢;by_cases e:t=i
 ·subst e;rw[if_pos rfl];have:(a.tmps.setIfInBounds t v).getD t undef=v:=by
   simp[Array.getElem?_setIfInBounds,hs,hi]
  rw[this];exact hd
 rw[if_neg e];have:(a.tmps.setIfInBounds t v).getD i undef=a.tmps.getD i undef:=by
  simp[Array.getElem?_setIfInBounds_ne e]
 rw[this];exact h.env i hi
def Wk(x y:St):Prop:=∀C a w,bK C x a w→bK C y a w
theorem Wk.refl(x:St):Wk x x:=fun _ _ _ h=>h
theorem Wk.trans{x y z:St}(h:Wk x y)(k:Wk y z):Wk x z:=fun C a w s=>k C a w (h C a w s)
theorem Own.sub{w:World}(h:Own w (live X S) S)(hs:S'.Sublist S):Own w (live X S') S' :=
 have E:(ax S').Sublist (ax S):=Sublist.map _ hs
 ⟨fun B I=>by
  obtain⟨h0,cur,h1,h2,h3,h4⟩:=h.at_ B (hs.subset I);refine⟨h0,cur,h1,h2,h3,fun i hi=>?_⟩;obtain⟨u,hu,hr⟩:=h4 i hi;exact⟨u,hu,hr.mono fun b _ hn=>⟨rfl,fun hl=>hn (hl.imp id fun q=>E.subset q)⟩⟩,h.apart.sublist E⟩
theorem Wk.drop(n:Nat)(l:List (Nat×D))(S S':List ah)(hs:S'.Sublist S):Wk ⟨n,l,S⟩ ⟨n,l,S'⟩:=fun C a w h =>
 have E:(ax S').Sublist (ax S):=Sublist.map _ hs
 ⟨h.defers,h.size,fun t ht=>(h.env t ht).mono fun b _ hn=>⟨rfl,fun hl=>hn (hl.imp id fun q=>E.subset q)⟩,h.own.sub hs,
  ⟨h.fr.os,h.fr.tape,h.fr.output,h.fr.size,fun b hb hn=>⟨(h.fr.block b hb hn).1,fun q=>(h.fr.block b hb hn).2 (E.subset q)⟩⟩,h.ex,h.eV⟩
theorem cn.k8{w:World}{x y:Value}(h:cn w L (.v x) y):y=x:=by cases h;rfl
def aF(x:St):Operand→D
 | .tmp t=>bif Nat.blt t x.n then look t x.env else .bX
 | .const v=>.v v
 | .global g=>.v (.pointer (some ⟨g,0,none⟩))
 | .func f=>.eH (.func f) []
theorem bK.eval{C:dK}{x:St}{a:Act}{w:World}(h:bK C x a w)(o:Operand):cn w (live C.X x.S) (aF x o) (a.eval o):=by
 cases o with
 | tmp t =>
  simp only[aF,Act.eval];cases ht:Nat.blt t x.n with
  | true=>exact h.env t (Nat.le_of_ble_eq_true ht)
  | false=>exact .bX _
 | const v=>exact .v _
 | global g=>exact .v _
 | func f=>exact .eH (.func f) [] [] rfl (fun i h=>by simp at h)
theorem bK.flat{x:St}{w:World}(h:bK C x a w){o:Operand}(ho:aF x o = .v u):a.eval o=u:=by
 have:=h.eval o;rw[ho] at this;exact this.k8
theorem bK.fN{x:St}{w:World}(h:bK C x a w)(hk:x.S[k]?=some B):LV w (live C.X x.S) B:=h.own.at_ B (mem_of_getElem? hk)
theorem RP(hk:S[k]?=some B):live X S B.b:=.inr (mem_map.2 ⟨B,mem_of_getElem? hk,rfl⟩)
theorem bK.aU{x:St}{w:World}(h:bK C x a w){g:Nat×List Value}(hg:g∈C.G)(hi:g.2[i]?=some v):ox w g.1 i v:=by
 obtain⟨⟨h1,h2,h3⟩,h4⟩:=h.eV g hg;exact(h4 i v hi).on (h.fr.block g.1 h1 h2).1

inductive Rd where
 | none
 | fN (k:Nat)
 | kj
def Same(C:dK)(x:St)(w w':World):Rd→Prop
 | .none=>True
 | .fN k=>∀B,x.S[k]?=some B→w'.heap[B.b]?=w.heap[B.b]?
 | .kj=>∀b,b<w.heap.size→¬live C.X x.S b→w'.heap[b]?=w.heap[b]?
theorem Same.self(C:dK)(x:St)(w:World):∀k,Same C x w w k
 | .none=>trivial
 | .fN _=>fun _ _=>rfl
 | .kj=>fun _ _ _=>rfl
def bW(P:Program)(G:List (Nat×List Value))(x:St)(o:Oper)(k:Rd)(d:D):Prop :=
 ∀C a w,C.G=G→bK C x a w→∃v,cn w (live C.X x.S) d v∧∀w',Same C x w w' k→(execOp a.eval o).run P w' = .ok (.value v) w'
variable {P:Program} {G:List (Nat×List Value)} {x:St} {o:Oper}
theorem aaB(ho:o.op = .move y):bW P G x o .none (aF x y):=fun C a w _ h =>
 ⟨a.eval y,h.eval y,fun w' _=>by unfold execOp;simp[ho]⟩
theorem ZZ(ho:o.op = .assign y):bW P G x o .none (aF x y):=fun C a w _ h =>
 ⟨a.eval y,h.eval y,fun w' _=>by unfold execOp;simp[ho]⟩
theorem Qg{c z:Operand}{t:Bool}(ho:o.op = .pick c y z)(hc:aF x c = .v (.bool t)):bW P G x o .none (if t then aF x y else aF x z):=fun C a w _ h=>by
 refine⟨if t then a.eval y else a.eval z,by cases t<;>simp[h.eval],fun w' _=>?_⟩;unfold execOp;simp only[ho,h.flat hc,asBool];cases t<;>simp
def kX(P:Program)(op:BinOp)(t:TypeId)(u u' r:Value):Prop:=∀(y z:Operand) w,(do eqGuard op t y z u u';Go.binOp op t u u':Sem Value).run P w = .ok r w
theorem dA{op:BinOp}{t':TypeId}{z:Operand}{u' r:Value}(ho:o.op = .binOp op t y z t')(hy:aF x y = .v u)(hz:aF x z = .v u')(hb:kX P op t u u' r):bW P G x o .none (.v r):=fun C a w _ h =>
 ⟨r,.v _,fun w' _=>by
  unfold execOp;have:=hb y z w';simp only[Sem.run_bind] at this;simp only[ho,h.flat hy,h.flat hz,Sem.run_bind,this,Result.andThen_ok,Sem.run_pure]⟩
theorem Fw{op:UnOp}{r:Value}(ho:o.op = .unOp op t y)(hy:aF x y = .v u)(hb:∀w,(Op.unary op u).run P w = .ok r w):bW P G x o .none (.v r):=fun C a w _ h =>
 ⟨r,.v _,fun w' _=>by
  unfold execOp;simp only[ho,h.flat hy,Sem.run_bind,hb w',Result.andThen_ok,Sem.run_pure]⟩
theorem oX{s:TypeId}{r:Value}(ho:o.op = .convert s t y)(hy:aF x y = .v u)(hb:∀w,(Go.convert s t u).run P w = .ok r w):bW P G x o .none (.v r):=fun C a w _ h =>
 ⟨r,.v _,fun w' _=>by
  unfold execOp;simp only[ho,h.flat hy,Sem.run_bind,hb w',Result.andThen_ok,Sem.run_pure]⟩
theorem PT{s:TypeId}{f:Field}{w:World}(O:∀w,(underlying s).run P w = .ok (.struct I) w)(hf:I[i]?=some f)(hn:∀w,(sizeOf f.type).run P w = .ok (n+1) w)(E:f.offset=off) :
  (Instr.fieldAt s (.pointer (some ⟨b,o',none⟩)) i).run P w = .ok (.pointer (some ⟨b,o'+off,none⟩)) w:=by
 subst E;simp[Instr.fieldAt,O,hf,Instr.sureAddr,fieldPlace,hn,Addr.add_mid]
theorem aae {s:TypeId} {f:Field} (ho:o.op = .fieldAddr s y i) (hy:aF x y = .v (.pointer (some ⟨b,o',none⟩)))
  (O:∀w,(underlying s).run P w = .ok (.struct I) w) (hf:I[i]?=some f) (hn:∀w,(sizeOf f.type).run P w = .ok (n+1) w) (E:f.offset=off):bW P G x o .none (.v (.pointer (some ⟨b,o'+off,none⟩))):=fun C a w _ h =>
 ⟨_,.v _,fun w' _=>by
  unfold execOp;simp only[ho,h.flat hy,Sem.run_bind,PT O hf hn E,Result.andThen_ok,Sem.run_pure]⟩
theorem Z0 {s:TypeId} {cs:List D} {f:Field} {O:Array Field} (ho:o.op = .fieldAddr s y i) (hy:aF x y = .fQ cs o')
  (U:∀w,(underlying s).run P w = .ok (.struct O) w) (hf:O[i]?=some f) (hn:∀w,(sizeOf f.type).run P w = .ok (n+1) w) (E:f.offset=off):bW P G x o .none (.fQ cs (o'+off)):=fun C a w _ h=>by
 have hr:=h.eval y;rw[hy] at hr;generalize hg:a.eval y=u at hr;cases hr with
 | fQ _ _ b I g hb hL hc hr =>
  refine⟨_,.fQ cs (o'+off) b I g hb hL hc hr,fun w' _=>?_⟩;unfold execOp;simp only[ho,hg,Sem.run_bind,PT U hf hn E,Result.andThen_ok,Sem.run_pure,Nat.add_assoc]
theorem ZP{cs:List D}{d:D}(ho:o.op = .extract y i)(hy:aF x y = .dD cs)(hd:cs[i]?=some d):bW P G x o .none d:=fun C a w _ h=>by
 have hr:=h.eval y;rw[hy] at hr;generalize hg:a.eval y=u at hr;cases hr with
 | dD _ vs hl hr =>
  obtain⟨aa,he⟩:=List.getElem?_eq_some_iff.1 hd;refine⟨vs[i]'w4,?_,fun w' _=>?_⟩
  ·rw[←he];exact hr _ aa w4
  unfold execOp;simp[ho,hg,Instr.extract,getElem?_eq_getElem (show i<vs.length by omega)]
theorem I4{w:World}(ha:∀w,(isAgg t).run P w = .ok false w)(hc:w.cell? ⟨b,o',none⟩=some v) :
  (Instr.loadAt t (.pointer (some ⟨b,o',none⟩))).run P w = .ok v w:=by
 simp[Instr.loadAt,Instr.sureAddr,loadVar,ha,hc]
theorem I5 {vs:List Value} {w:World} (ha:∀w,(isAgg t).run P w = .ok true w) (hn:∀w,(sizeOf t).run P w = .ok n w) (hl:vs.length=n)
  (hc:∀j (h:j<vs.length),w.cell? ⟨b,o'+j,none⟩=some vs[j]) :
  (Instr.loadAt t (.pointer (some ⟨b,o',none⟩))).run P w = .ok (.agg vs.toArray) w:=by
 have:=run_loadCells_list (P:=P) w ⟨b,o',none⟩ vs (fun j v hv=>by
  obtain⟨h1,h2⟩:=List.getElem?_eq_some_iff.1 hv;rw[Addr.add_mid,hc j h1,h2])
 rw[hl] at this;simp[Instr.loadAt,Instr.sureAddr,loadVar,ha,hn,this]
theorem ou{w:World}(E:w.heap[b]?=some (.cells cur e (0,0)))(I:cur[i]?=some u):w.cell? ⟨b,i,none⟩=some u:=by
 unfold World.cell?;simp[E,I]
theorem EW {d:D} (ho:o.op = .load t y) (hy:aF x y = .v (.pointer (some ⟨b,o',none⟩)))
  (hk:x.S[k]?=some B) (hb:B.b=b) (ha:∀w,(isAgg t).run P w = .ok false w) (hd:B.cs[o']?=some d) (hne:isMap B.e=false:=by rfl):bW P G x o (.fN k) d:=fun C a w _ h=>by
 obtain⟨_,cur,h1,h2,h3,h4⟩:=h.fN hk;rw[kI hne] at h1;obtain⟨aa,he⟩:=List.getElem?_eq_some_iff.1 hd;obtain⟨u,hu,hr⟩:=h4 o' aa;refine⟨u,by rw[←he];exact hr,fun w' hw=>?_⟩;have E:w'.heap[B.b]?=_:=(hw B hk).trans h1;unfold execOp;subst hb;simp only[ho,h.flat hy,Sem.run_bind,I4 ha (ou E hu),Result.andThen_ok,Sem.run_pure]
theorem Bx (ho:o.op = .load t y) (hy:aF x y = .v (.pointer (some ⟨b,o',none⟩)))
  (hk:x.S[k]?=some B) (hb:B.b=b) (ha:∀w,(isAgg t).run P w = .ok true w) (hn:∀w,(sizeOf t).run P w = .ok n w) (hl:ds.length=n) (hd:(B.cs.drop o').take n=ds) (hne:isMap B.e=false:=by rfl):bW P G x o (.fN k) (.agg ds):=fun C a w _ h=>by
 obtain⟨_,cur,h1,h2,h3,h4⟩:=h.fN hk;rw[kI hne] at h1;have hlen:o'+n≤B.cs.length∨n=0:=by
  have:=congrArg length hd;simp only[length_take,length_drop] at this;omega
 have E:∀j,j<n→∃u,cur[o'+j]?=some u∧∀(h:j<ds.length),cn w (live C.X x.S) ds[j] u:=fun j hj=>by
  obtain⟨u,hu,hr⟩:=h4 (o'+j) w4;refine⟨u,hu,fun h=>?_⟩;subst hd;simpa using hr
 refine⟨.agg ((range n).map fun j=>cur.getD (o'+j) undef).toArray,.agg _ _ (by simp[hl]) (fun i q1 q2=>?_),fun w' hw=>?_⟩
 ·obtain⟨u,hu,hr⟩:=E i w4;simp only[getElem_map,getElem_range,Array.getD_eq_getD_getElem?,hu,Option.getD_some];exact hr q1
 have I:w'.heap[B.b]?=_:=(hw B hk).trans h1;unfold execOp;subst hb;have:=I5 (P:=P) (w:=w') (b:=B.b) (o':=o') (vs:=(range n).map fun j=>cur.getD (o'+j) undef) ha hn bj (fun j hj=>by
  simp only[length_map,length_range] at hj;obtain⟨u,hu,_⟩:=E j hj;simp only[getElem_map,getElem_range,Array.getD_eq_getD_getElem?,hu,Option.getD_some];exact ou I hu)
 simp only[ho,h.flat hy,Sem.run_bind,this,Result.andThen_ok,Sem.run_pure]
theorem EV {cs:List D} {d:D} (ho:o.op = .load t y) (hy:aF x y = .fQ cs o')
  (ha:∀w,(isAgg t).run P w = .ok false w) (hd:cs[o']?=some d):bW P G x o .kj d:=fun C a w _ h=>by
 have hr:=h.eval y;rw[hy] at hr;generalize hg:a.eval y=u at hr;cases hr with
 | fQ _ _ b E g hb hL hc hr =>
  obtain⟨aa,he⟩:=List.getElem?_eq_some_iff.1 hd;refine⟨g o',by rw[←he];exact hr o' aa,fun w' hw=>?_⟩;have I:=World.cell?_of_block (w:=w) (a:=⟨b,E+o',none⟩) (hw b hb hL);unfold execOp;simp only[ho,hg,Sem.run_bind,I4 ha (I.trans (hc o' aa)),Result.andThen_ok,Sem.run_pure]
theorem II {cs:List D} (ho:o.op = .load t y) (hy:aF x y = .fQ cs o')
  (ha:∀w,(isAgg t).run P w = .ok true w) (hn:∀w,(sizeOf t).run P w = .ok n w) (hl:ds.length=n) (hd:(cs.drop o').take n=ds):bW P G x o .kj (.agg ds):=fun C a w _ h=>by
 have hr:=h.eval y;rw[hy] at hr;generalize hg:a.eval y=u at hr;cases hr with
 | fQ _ _ b E g hb hL hc hr =>
  have hlen:o'+n≤cs.length∨n=0:=by
   have:=congrArg length hd;simp only[length_take,length_drop] at this;omega
  refine⟨.agg ((range n).map fun j=>g (o'+j)).toArray,.agg _ _ (by simp[hl]) (fun i q1 q2=>?_),fun w' hw=>?_⟩
  ·simp only[getElem_map,getElem_range];have:=hr (o'+i) w4;subst hd;simpa using this
  have:=I5 (P:=P) (w:=w') (b:=b) (o':=E+o') (vs:=(range n).map fun j=>g (o'+j)) ha hn bj (fun j hj=>by
   simp only[length_map,length_range] at hj;simp only[getElem_map,getElem_range];have I:=World.cell?_of_block (w:=w) (a:=⟨b,E+o'+j,none⟩) (hw b hb hL);rw[I,Nat.add_assoc];exact hc _ w4)
  unfold execOp;simp only[ho,hg,Sem.run_bind,this,Result.andThen_ok,Sem.run_pure]
theorem aaf {vs:List Value} (ho:o.op = .load t y) (hy:aF x y = .v (.pointer (some ⟨b,o',none⟩)))
  (hg:(b,vs)∈G) (ha:∀w,(isAgg t).run P w = .ok false w) (hd:vs[o']?=some v) (rj:rI v=true:=by rfl):bW P G x o .kj (.v v):=fun C a w hG h=>by
 subst hG;refine⟨v,.v _,fun w' hw=>?_⟩;have h1:=(h.aU hg hd).cell rj;obtain⟨⟨q1,q2,E⟩,_⟩:=h.eV _ hg;have hb:b<w.heap.size:=Nat.lt_of_lt_of_le q1 h.fr.size;have hn:¬live C.X x.S b:=fun hl=>hl.elim E (h.fr.block b q1 q2).2;have I:=World.cell?_of_block (w:=w) (a:=⟨b,o',none⟩) (hw b hb hn);unfold execOp;simp only[ho,h.flat hy,Sem.run_bind,I4 ha (I.trans h1),Result.andThen_ok,Sem.run_pure]

theorem TM{len:Nat}{k:IntKind}{i:Int}{w:World}(E:∀w,(underlying t).run P w = .ok (.slice e) w)(hs:∀w,(sizeOf e).run P w = .ok sz w)(hi:i=j)(hj:j<len) :
  (Instr.indexAt t (.slice (some ⟨b,o',none⟩) len cap) (.int k i)).run P w = .ok (.pointer (some ⟨b,o'+j*sz,none⟩)) w:=by
 subst hi;simp[Instr.indexAt,asIntOf,E,hs,hj,Addr.add_mid]
theorem QE {len:Nat} {cs:List D} {k:IntKind} {i:Int} {z:Operand} (ho:o.op = .indexAddr t y z) (hy:aF x y = .list sz cs len) (hz:aF x z = .v (.int k i))
  (I:∀w,(underlying t).run P w = .ok (.slice e) w) (hs:∀w,(sizeOf e).run P w = .ok sz w) (hi:i=j) (hj:j<len):bW P G x o .none (.fQ cs (j*sz)):=fun C a w _ h=>by
 have hr:=h.eval y;rw[hy] at hr;generalize hg:a.eval y=u at hr;cases hr with
 | mB=>omega
 | list _ _ _ b E cap g hl h1 h2 hb hL hc hr =>
  refine⟨_,.fQ cs (j*sz) b E g hb hL hc hr,fun w' _=>?_⟩;unfold execOp;simp only[ho,hg,h.flat hz,Sem.run_bind,TM I hs hi hj,Result.andThen_ok,Sem.run_pure]
theorem Qh {len:Nat} {k:IntKind} {i:Int} {z:Operand} (ho:o.op = .indexAddr t y z) (hy:aF x y = .v (.slice (some ⟨b,o',none⟩) len cap)) (hz:aF x z = .v (.int k i))
  (E:∀w,(underlying t).run P w = .ok (.slice e) w) (hs:∀w,(sizeOf e).run P w = .ok sz w) (hi:i=j) (hj:j<len):bW P G x o .none (.v (.pointer (some ⟨b,o'+j*sz,none⟩))):=fun C a w _ h =>
 ⟨_,.v _,fun w' _=>by
  unfold execOp;simp only[ho,h.flat hy,h.flat hz,Sem.run_bind,TM E hs hi hj,Result.andThen_ok,Sem.run_pure]⟩
theorem ac2{len:Nat}{k:IntKind}{i:Int}{w:World}(E:∀w,(underlying t).run P w = .ok (.array len e) w)(hs:∀w,(sizeOf e).run P w = .ok sz w)(hi:i=j)(hj:j<len) :
  (Instr.indexAt t (.pointer (some ⟨b,o',none⟩)) (.int k i)).run P w = .ok (.pointer (some ⟨b,o'+j*sz,none⟩)) w:=by
 subst hi;simp[Instr.indexAt,asIntOf,E,hs,hj,Addr.add_mid,Instr.sureAddr]
theorem aaC {len:Nat} {k:IntKind} {i:Int} {z:Operand} (ho:o.op = .indexAddr t y z) (hy:aF x y = .v (.pointer (some ⟨b,o',none⟩))) (hz:aF x z = .v (.int k i))
  (E:∀w,(underlying t).run P w = .ok (.array len e) w) (hs:∀w,(sizeOf e).run P w = .ok sz w) (hi:i=j) (hj:j<len):bW P G x o .none (.v (.pointer (some ⟨b,o'+j*sz,none⟩))):=fun C a w _ h =>
 ⟨_,.v _,fun w' _=>by
  unfold execOp;simp only[ho,h.flat hy,h.flat hz,Sem.run_bind,ac2 E hs hi hj,Result.andThen_ok,Sem.run_pure]⟩
theorem IU {s:ByteArray} {c:UInt8} {k:IntKind} {i:Int} {z:Operand} (ho:o.op = .index t y z) (hy:aF x y = .v (.string s)) (hz:aF x z = .v (.int k i))
  (E:∀w,(underlying t).run P w = .ok .string w) (hi:i=j) (hj:s[j]?=some c):bW P G x o .none (.v (.int .u8 c.toNat)):=fun C a w _ h =>
 ⟨_,.v _,fun w' _=>by
  subst hi;unfold execOp;simp[ho,h.flat hy,h.flat hz,Instr.index,asIntOf,E,hj]⟩
theorem aaD {len:Nat} {cs:List D} {d:D} {k:IntKind} {i:Int} {z:Operand} (ho:o.op = .index t y z) (hy:aF x y = .agg cs) (hz:aF x z = .v (.int k i))
  (E:∀w,(underlying t).run P w = .ok (.array len e) w) (hs:∀w,(sizeOf e).run P w = .ok sz w) (ha:∀w,(isAgg e).run P w = .ok false w) (hi:i=j) (hj:j<len) (hd:cs[j*sz]?=some d):bW P G x o .none d:=fun C a w _ h=>by
 have hr:=h.eval y;rw[hy] at hr;generalize hg:a.eval y=u at hr;subst hi;cases hr with
 | agg _ vs hl hr =>
  obtain⟨aa,he⟩:=List.getElem?_eq_some_iff.1 hd;refine⟨vs[j*sz]'w4,?_,fun w' _=>?_⟩
  ·rw[←he];exact hr _ aa w4
  unfold execOp;simp[ho,hg,h.flat hz,Instr.index,asIntOf,E,hj,part,ha,hs,getElem?_eq_getElem (show j*sz<vs.length by omega)]
def mT(x:St)(y:Option Operand)(n:Nat)(ajK:Nat):Prop :=
 match y with
 | some y=>∃(k:IntKind) (i:Int),aF x y = .v (.int k i)∧i=n
 | none=>n=ajK
theorem sI{w:World}(h:bK C x a w){y:Option Operand}{E:Nat}(hb:mT x y n E):(∃k,y.map a.eval=some (.int k n))∨(y.map a.eval=none∧n=E):=by
 cases y with
 | none=>exact .inr ⟨rfl,hb⟩
 | some y =>
  obtain⟨k,i,h1,h2⟩:=hb;exact .inl ⟨k,by rw[Option.map_some,h.flat h1,h2]⟩
theorem EX{k:IntKind}{code:BoundsCode}{w:World}(h:n≤m):(Instr.sliceBound (.int k n) m code).run P w = .ok n w:=by
 unfold Instr.sliceBound;simp[asIntOf,h]
theorem wK{il:Bool}{len l h:Nat}{lo hi:Option Value}{w:World}(e9:(∃k,lo=some (.int k l))∨(lo=none∧l=0))(eK:(∃k,hi=some (.int k h))∨(hi=none∧h=len))(h1:l≤h)(h2:h≤cap) :
  (Instr.sliceBounds il len cap lo hi none).run P w = .ok (l,h,cap) w:=by
 unfold Instr.sliceBounds;rcases e9 with ⟨k,rfl⟩|⟨rfl,rfl⟩<;>rcases eK with ⟨k',rfl⟩|⟨rfl,rfl⟩<;>simp[EX,h1,h2]
theorem IK {len l:Nat} {cs:List D} (ho:o.op = .slice t y lo hi none) (hy:aF x y = .list sz cs len) (e9:mT x lo l 0) (eK:mT x hi h' len)
  (U:∀w,(underlying t).run P w = .ok (.slice e) w) (hs:∀w,(sizeOf e).run P w = .ok sz w) (h1:l≤h') (h2:h'≤len):bW P G x o .none (.list sz ((cs.drop (l*sz)).take ((h'-l)*sz)) (h'-l)):=fun C a w _ h=>by
 have hr:=h.eval y;rw[hy] at hr;generalize hg:a.eval y=u at hr;have b1:=sI h e9;have b2:=sI h eK;cases hr with
 | mB _ ad cap =>
  have e1:l=0:=(by omega)
  have e2:h'=0:=(by omega)
  subst e1 e2;refine⟨.slice (if cap=0 then ad else ad.map (·.add (0*sz))) 0 cap,by simpa using cn.mB sz _ _,fun w' _=>?_⟩;unfold execOp;simp[ho,hg,Instr.sliceAt,Instr.slice,U,wK b1 b2 (Nat.le_refl _) (Nat.zero_le _),hs]
 | list _ _ _ b E cap g hl q1 q2 hb hL hc hr =>
  have hlen:((cs.drop (l*sz)).take ((h'-l)*sz)).length=(h'-l)*sz:=by
   rw[length_take,length_drop,hl,←Nat.sub_mul];exact Nat.min_eq_left (Nat.mul_le_mul_right _ w4)
  have O:∀i,i<(h'-l)*sz→l*sz+i<cs.length:=fun i hi=>by
   rw[hl];have:l*sz+(h'-l)*sz≤len*sz:=(by rw[←Nat.add_mul];exact Nat.mul_le_mul_right _ w4)
   omega
  by_cases I:cap=l
  ·have e2:h'=l:=(by omega)
   refine⟨.slice (some ⟨b,E,none⟩) (h'-l) (cap-l),?_,fun w' _=>?_⟩
   ·refine .list sz _ _ b E _ g hlen w4 w4 hb hL (fun i hi=>?_) (fun i hi=>?_)<;>(rw[hlen,e2] at hi;simp at hi)
   have b3:=fun w=>wK (P:=P) (il:=true) (w:=w) b1 b2 h1 (Nat.le_trans h2 q1);unfold execOp;simp only[ho,hg,Instr.sliceAt,Instr.slice,U,Sem.run_bind,Result.andThen_ok,Option.map_none,b3,hs,Sem.run_pure,if_pos I]
  refine⟨.slice (some ⟨b,E+l*sz,none⟩) (h'-l) (cap-l),?_,fun w' _=>?_⟩
  ·refine .list sz _ _ b (E+l*sz) _ (fun i=>g (l*sz+i)) hlen w4 w4 hb hL (fun i hi=>?_) (fun i hi=>?_)
   ·rw[Nat.add_assoc];exact hc _ (O i (by rw[hlen] at hi;exact hi))
   simp only[getElem_take,getElem_drop];exact hr _ _
  have b3:=fun w=>wK (P:=P) (il:=true) (w:=w) b1 b2 h1 (Nat.le_trans h2 q1);unfold execOp;simp only[ho,hg,Instr.sliceAt,Instr.slice,U,Sem.run_bind,Result.andThen_ok,Option.map_none,b3,hs,Sem.run_pure,if_neg I,Option.map_some,Addr.add_mid]
theorem P0 {len:Nat} (ho:o.op = .slice t y lo hi none) (hy:aF x y = .v (.slice (some ⟨b,o',none⟩) len cap)) (e9:mT x lo 0 0) (eK:mT x hi h' len)
  (E:∀w,(underlying t).run P w = .ok (.slice e) w) (hs:∀w,(sizeOf e).run P w = .ok sz w) (h2:h'≤cap):bW P G x o .none (.v (.slice (some ⟨b,o',none⟩) h' cap)):=fun C a w _ h =>
 ⟨_,.v _,fun w' _=>by
  have b1:=sI h e9;have b2:=sI h eK;unfold execOp;simp[ho,h.flat hy,Instr.sliceAt,Instr.slice,E,wK b1 b2 (Nat.zero_le _) h2,hs,Addr.add_mid]⟩
theorem Z1 {s:ByteArray} {l:Nat} (ho:o.op = .slice t y lo hi none) (hy:aF x y = .v (.string s)) (e9:mT x lo l 0) (eK:mT x hi h' s.size)
  (E:∀w,(underlying t).run P w = .ok .string w) (h1:l≤h') (h2:h'≤s.size):bW P G x o .none (.v (.string (s.extract l h'))):=fun C a w _ h =>
 ⟨_,.v _,fun w' _=>by
  have b1:=sI h e9;have b2:=sI h eK;unfold execOp;simp[ho,h.flat hy,Instr.sliceAt,Instr.slice,E,wK b1 b2 h1 h2]⟩
theorem abr{len:Nat}{cs:List D}(ho:o.op = .call {callee:=.builtin .len,args:=#[y],argTypes:=ts})(ht:ts = #[t])(hy:aF x y = .list sz cs len)(E:∀w,(underlying t).run P w = .ok (.slice e) w):bW P G x o .none (.v (.int .i64 len)):=fun C a w _ h=>by
 have hr:=h.eval y;rw[hy] at hr;generalize hg:a.eval y=u at hr;subst ht;refine⟨_,.v _,fun w' _=>?_⟩;cases hr<;>(unfold execOp;simp[ho,hg,resolve,invoke,builtin,Builtin.len_,E,goInt])
theorem Qi{len:Nat}(ho:o.op = .call {callee:=.builtin .len,args:=#[y],argTypes:=ts})(ht:ts = #[t])(hy:aF x y = .v (.slice ad len cap))(E:∀w,(underlying t).run P w = .ok (.slice e) w):bW P G x o .none (.v (.int .i64 len)):=fun C a w _ h=>by
 subst ht;refine⟨_,.v _,fun w' _=>?_⟩;unfold execOp;simp[ho,h.flat hy,resolve,invoke,builtin,Builtin.len_,E,goInt]
theorem EY {s:ByteArray} (ho:o.op = .call {callee:=.builtin .len,args:=#[y],argTypes:=ts}) (ht:ts = #[t]) (hy:aF x y = .v (.string s))
  (E:∀w,(underlying t).run P w = .ok .string w):bW P G x o .none (.v (.int .i64 s.size)):=fun C a w _ h=>by
 subst ht;refine⟨_,.v _,fun w' _=>?_⟩;unfold execOp;simp[ho,h.flat hy,resolve,invoke,builtin,Builtin.len_,E,goInt]
theorem Z2 {b:Builtin} {u' r:Value} {z:Operand} (ho:o.op = .call {callee:=.builtin b,args:=#[y,z],argTypes:=ts}) (hy:aF x y = .v u) (hz:aF x z = .v u')
  (hb:∀cs w,(Go.builtin b ts o.type cs #[u,u']).run P w = .ok (.value r) w):bW P G x o .none (.v r):=fun C a w _ h =>
 ⟨_,.v _,fun w' _=>by
  unfold execOp;simp[ho,h.flat hy,h.flat hz,resolve,invoke,hb]⟩
theorem aaE{fn:Fn}{E:Array Operand}(ho:o.op = .makeFunc fn #[] E)(hd:E.toList.map (aF x)=ds):bW P G x o .none (.eH fn ds):=fun C a w _ h=>by
 subst hd;refine⟨.func fn #[] (E.toList.map a.eval).toArray,.eH _ _ _ bj (fun i q1 q2=>?_),fun w' _=>?_⟩
 ·simp only[getElem_map];exact h.eval _
 unfold execOp;simp[ho,Instr.makeFunc];rw[←Array.toList_map,Array.toArray_toList]
def mh(W:List Nat)(w w':World):Prop:=w.heap.size≤w'.heap.size∧∀b,b<w.heap.size→b∉W→w'.heap[b]?=w.heap[b]?
def ga(P:Program)(G:List (Nat×List Value))(x:St)(o:Oper)(W:List Nat)(post:St→Prop):Prop :=
 ∀(C:dK) (a:Act) (w:World) (K:Act→World→Prop) (Q:Exit→Act→World→Prop),C.G=G→bK C x a w→(∀y a' w',post y→bK C y a' w'→mh W w w'→Fr w (ax x.S) w' (ax y.S)→K a' w')→o.wp P a w K Q
theorem mh.refl(W:List Nat)(w:World):mh W w w:=⟨Nat.le_refl _,fun _ _ _=>rfl⟩
theorem bW.gk{k:Rd}{d:D}{t:Nat}(h:bW P G x o k d)(hd:o.dst=some t):ga P G x o [] (fun y=>y=x.put t d):=fun C a w K Q hG hs hK=>by
 obtain⟨v,hr,nY⟩:=h C a w hG hs;unfold Oper.wp;rw[nY w (Same.self C x w k),Oper.upon_value,hd];exact hK _ _ _ rfl (hs.put hr) (mh.refl _ _) (Fr.refl _ _)
def cellsOf:D→List D
 | .agg cs=>cs
 | .v (.agg cs)=>cs.toList.map .v
 | d=>[d]
def cG(w:World)(L:Nat→Prop)(ds:List D)(vs:List Value):Prop:=vs.length=ds.length∧∀i (h:i<ds.length) (h':i<vs.length),cn w L ds[i] vs[i]
theorem cG.mono{w w':World}{L E:Nat→Prop}{ds:List D}{vs:List Value}(h:cG w L ds vs)(H:∀b,b<w.heap.size→¬L b→w'.heap[b]?=w.heap[b]?∧¬E b):cG w' E ds vs :=
 ⟨h.1,fun i h1 h2=>(h.2 i h1 h2).mono H⟩
def one:D→Bool
 | .v x=>x.oneCell'
 | .list ..|.fQ ..|.eH ..=>true
 | _=>false
theorem cn.BS{w:World}{d:D}(h:cn w L d v)(hd:one d=true):v.oneCell'=true:=by
 cases h<;>first|exact hd|rfl|exact absurd hd (by simp[one])
theorem cn.cells{w:World}{L:Nat→Prop}{d:D}{v:Value}(h:cn w L d v)(hd:d≠.bX):cG w L (cellsOf d) v.cells.toList:=by
 have E:∀(d:D) (v:Value),v.cells = #[v]→cellsOf d=[d]→cn w L d v→cG w L (cellsOf d) v.cells.toList:=fun d v h1 h2 h3=>by
  rw[h1,h2];refine⟨rfl,fun i q1 q2=>?_⟩;have:i=0:=(by simpa using q1)
  subst this;exact h3
 cases h with
 | v =>
  cases v with
  | agg cs =>
   refine⟨by simp[cellsOf,Value.cells],fun i q1 q2=>?_⟩;simp only[cellsOf,getElem_map,Value.cells];exact .v _
  | _=>exact E _ _ rfl rfl (.v _)
 | mB sz ad cap=>exact E _ _ rfl rfl (.mB sz ad cap)
 | list sz cs len b o cap f hl h1 h2 hb hL hc hr=>exact E _ _ rfl rfl (.list sz cs len b o cap f hl h1 h2 hb hL hc hr)
 | fQ cs off b o f hb hL hc hr=>exact E _ _ rfl rfl (.fQ cs off b o f hb hL hc hr)
 | agg cs vs hl hr=>exact⟨by simp[cellsOf,Value.cells,hl],fun i q1 q2=>hr i q1 q2⟩
 | dD cs vs hl hr=>exact E _ _ rfl rfl (.dD cs vs hl hr)
 | eH fn cs vs hl hr=>exact E _ _ rfl rfl (.eH fn cs vs hl hr)
 | kz l os h=>exact E _ _ rfl rfl (.kz l os h)
 | bX=>exact absurd rfl hd
theorem getElem?_push_lt{w:World}{ob:Obj}(h:b<w.heap.size):(w.alloc ob).heap[b]?=w.heap[b]?:=Below.heap_alloc w ob b h
theorem bK.VS {w:World} (h:bK C x a w) {t:Nat} {cells:Array Value} {size:Nat} (hr:cG w (live C.X x.S) ds cells.toList) (O:cells.size=size) {d:D}
  (hd:∀L,cn (w.alloc (ob e cells)) L d v) :
  bK C ⟨x.n,(t,d)::x.env,⟨w.heap.size,e,size,ds⟩::x.S⟩ (a.put (some t) v) (w.alloc (ob e cells)):=by
 have aa:∀b,live C.X x.S b→b<w.heap.size:=fun b hb=>by
  rcases hb with hb|hb
  ·exact Nat.lt_of_lt_of_le (h.ex b hb).1 h.fr.size
  obtain⟨B,I,rfl⟩:=mem_map.1 hb;exact(h.own.at_ B I).1
 have H:∀b,b<w.heap.size→¬live C.X x.S b→(w.alloc (ob e cells)).heap[b]?=w.heap[b]?∧¬live C.X (⟨w.heap.size,e,size,ds⟩::x.S) b:=fun b hb hn =>
  ⟨getElem?_push_lt hb,fun hl=>by
   rcases hl with hl|hl
   ·exact hn (.inl hl)
   simp only[ax,map_cons,mem_cons] at hl;rcases hl with hl|hl
   ·omega
   exact hn (.inr hl)⟩
 have base:bK C ⟨x.n,x.env,⟨w.heap.size,e,size,ds⟩::x.S⟩ a (w.alloc (ob e cells)):=by
  refine⟨h.defers,h.size,fun t ht=>(h.env t ht).mono H,⟨fun B I=>?_,?_⟩,?_,h.ex,h.eV⟩
  ·rcases mem_cons.1 I with rfl|I
   ·refine⟨by simp,cells,heap_alloc_new w _,O,?_,fun i hi=>?_⟩
    ·have:=hr.1;simp at this;simp only;omega
    have E:i<cells.toList.length:=(by rw[hr.1];exact hi)
    refine⟨cells.toList[i],?_,(hr.2 i hi E).mono H⟩;simp at E;simp[E]
   obtain⟨h0,cur,h1,h2,h3,h4⟩:=h.own.at_ B I;refine⟨by simp;omega,cur,(getElem?_push_lt h0).trans h1,h2,h3,fun i hi=>?_⟩;obtain⟨u,hu,hq⟩:=h4 i hi;exact⟨u,hu,hq.mono H⟩
  ·show(w.heap.size::ax x.S).Nodup;exact nodup_cons.2 ⟨fun hm=>Nat.lt_irrefl _ (aa _ (.inr hm)),h.own.apart⟩
  refine⟨h.fr.os,h.fr.tape,h.fr.output,by simp;have:=h.fr.size;omega,fun b hb hn=>?_⟩;obtain⟨q1,q2⟩:=h.fr.block b hb hn;have U:=Nat.lt_of_lt_of_le hb h.fr.size;refine⟨(getElem?_push_lt U).trans q1,fun hm=>?_⟩;simp only[ax,map_cons,mem_cons] at hm;rcases hm with hm|hm
  ·omega
  exact q2 hm
 exact base.put (hd _)
theorem bK.new {w:World} (h:bK C x a w) {t:Nat} {cells:Array Value} {size:Nat} (hr:cG w (live C.X x.S) ds cells.toList) (E:cells.size=size) {d:D}
  (hd:∀L,cn (w.alloc (.cells cells e)) L d v) (hne:isMap e=false:=by rfl) :
  bK C ⟨x.n,(t,d)::x.env,⟨w.heap.size,e,size,ds⟩::x.S⟩ (a.put (some t) v) (w.alloc (.cells cells e)):=by
 have:=bK.VS h (e:=e) hr E (t:=t) (d:=d) (v:=v) (fun L=>by rw[kI hne];exact hd L);rw[kI hne] at this;exact this
theorem mh.alloc(w:World)(ob:Obj):mh [] w (w.alloc ob):=⟨by simp,fun b hb _=>getElem?_push_lt hb⟩
theorem Fr.alloc(w:World)(ob:Obj)(S:List Nat):Fr w S (w.alloc ob) (w.heap.size::S) :=
 ⟨rfl,rfl,rfl,by simp,fun b hb hn=>⟨getElem?_push_lt hb,fun hm=>by
  rcases mem_cons.1 hm with hm|hm
  ·omega
  exact hn hm⟩⟩
def xy(x:St)(t:Nat)(e:TypeId)(ds:List D)(y:St):Prop:=∃b,y=⟨x.n,(t,.v (.pointer (some ⟨b,0,none⟩)))::x.env,⟨b,e,ds.length,ds⟩::x.S⟩
theorem E9{z:Value}{t:Nat}(ho:o.op = .alloc e)(hd:o.dst=some t)(hz:∀w,(zeroValue e).run P w = .ok z w)(jV:z.cells.toList.map .v=ds)(hne:isMap e=false:=by rfl):ga P G x o [] (xy x t e ds):=fun C a w K Q hG h hK=>by
 subst jV;unfold Oper.wp;have:(execOp a.eval o).run P w = .ok (.value (.pointer (some ⟨w.heap.size,0,none⟩))) (w.alloc (.cells z.cells e)):=by
  unfold execOp;simp[ho,Instr.alloc,hz,newVar,newRow]
 rw[this,Oper.upon_value,hd];refine hK _ _ _ ⟨w.heap.size,rfl⟩ (h.new (ds:=z.cells.toList.map .v) ⟨by simp,fun i q1 q2=>?_⟩ bj (fun L=>.v _) hne) (mh.alloc _ _) (Fr.alloc _ _ _);simp only[getElem_map];exact .v _
theorem ae5{t:Nat}{d:D}(ho:o.op = .box e y)(hd:o.dst=some t)(hy:aF x y=d)(hj:d≠.bX)(jV:cellsOf d=ds)(hne:isMap e=false:=by rfl):ga P G x o [] (xy x t e ds):=fun C a w K Q hG h hK=>by
 subst jV;unfold Oper.wp;have:(execOp a.eval o).run P w = .ok (.value (.pointer (some ⟨w.heap.size,0,none⟩))) (w.alloc (.cells (a.eval y).cells e)):=by
  unfold execOp;simp[ho,Instr.box,newVar,newRow]
 rw[this,Oper.upon_value,hd];have hr:=h.eval y;rw[hy] at hr;have hc:=hr.cells hj;refine hK _ _ _ ⟨w.heap.size,rfl⟩ (h.new (ds:=cellsOf d) hc (by have:=hc.1;simpa using this) (fun L=>.v _) hne) (mh.alloc _ _) (Fr.alloc _ _ _)

def dm(cs:List D)(off:Nat):List D→List D
 | []=>cs
 | d::r=>dm (cs.set off d) (off+1) r
def mz(place:Nat→Option (Nat×Nat))(cells:List D):List (Nat×D)→Option (List D)
 | []=>some cells
 | (i,d)::rest =>
  match place i with
  | none=>none
  | some (off,size)=>if (cellsOf d).length≠size||off+(cellsOf d).length>cells.length then none else mz place (dm cells off (cellsOf d)) rest
theorem cG.set{w:World}{L:Nat→Prop}{ds:List D}{vs:List Value}(h:cG w L ds vs)(i:Nat){d:D}{v:Value}(hd:cn w L d v):cG w L (ds.set i d) (vs.set i v) :=
 ⟨by simp[h.1],fun j h1 h2=>by
  rw[getElem_set,getElem_set];split
  ·exact hd
  exact h.2 j _ _⟩
theorem cG.tail{w:World}{d:D}{vs:List Value}(h:cG w L (d::ds) (v::vs)):cn w L d v∧cG w L ds vs :=
 ⟨h.2 0 bj bj,by simpa using h.1,fun i h1 h2=>h.2 (i+1) (by simpa using h1) (by simpa using h2)⟩
theorem I6{β:Type}(f:β→Value→Nat→β):∀(r:List Value) (k:Nat) (z:β),(r.zipIdx (k+1)).foldl (fun c (x:Value×Nat)=>f c x.1 x.2) z=(r.zipIdx k).foldl (fun c (x:Value×Nat)=>f c x.1 (x.2+1)) z
 | [],_,_=>rfl
 | v::r,k,z=>by
  simp only[zipIdx_cons,foldl_cons];exact I6 f r (k+1) _
theorem cG.dm{w:World}{L:Nat→Prop}:∀(ds:List D) (vs:List Value) (cs:List D) (cells:List Value) (off:Nat),cG w L ds vs→cG w L cs cells→cG w L (dm cs off ds) (vs.zipIdx.foldl (fun cs (c,j)=>cs.set (off+j) c) cells)
 | [],[],cs,cells,off,_,h=>h
 | [],_::_,_,_,_,h,_=>by simp[cG] at h
 | _::_,[],_,_,_,h,_=>by simp[cG] at h
 | d::ds,v::vs,cs,cells,off,h,hc=>by
  obtain⟨h0,h1⟩:=h.tail;have ih:=cG.dm ds vs (cs.set off d) (cells.set off v) (off+1) h1 (hc.set off h0);have e:(v::vs).zipIdx.foldl (fun cs (x:Value×Nat)=>cs.set (off+x.2) x.1) cells=vs.zipIdx.foldl (fun cs (x:Value×Nat)=>cs.set (off+1+x.2) x.1) (cells.set off v):=by
   rw[zipIdx_cons,foldl_cons,Nat.add_zero,I6 (fun (c:List Value) v n=>c.set (off+n) v)];congr 1;funext a b;rw[Nat.add_assoc,Nat.add_comm 1]
  rw[e];exact ih
theorem Fa:∀(l:List (Value×Nat)) (cells:Array Value) (off:Nat),(l.foldl (fun cs (x:Value×Nat)=>cs.setIfInBounds (off+x.2) x.1) cells).toList=l.foldl (fun cs (x:Value×Nat)=>cs.set (off+x.2) x.1) cells.toList
 | [],_,_=>rfl
 | (v,j)::l,cells,off=>by
  simp only[foldl_cons];rw[Fa l];simp
theorem Fx{w:World}{L:Nat→Prop}(place:Nat→Option (Nat×Nat)):∀(E:List (Nat×D)) (s6:List (Nat×Value)) (cs:List D) (cells:Array Value) (ds:List D),
  E.length=s6.length→(∀i (h:i<E.length) (h':i<s6.length),E[i].1=s6[i].1∧E[i].2≠.bX∧cn w L E[i].2 s6[i].2)→cG w L cs cells.toList→mz place cs E=some ds →
  ∃I,Instr.fill place cells s6=some I∧cG w L ds I.toList
 | [],[],cs,cells,ds,_,_,hc,hf=>by
  simp only[mz,Option.some.injEq] at hf;subst hf;exact⟨cells,rfl,hc⟩
 | [],_::_,_,_,_,h,_,_,_=>by simp at h
 | _::_,[],_,_,_,h,_,_,_=>by simp at h
 | (i,d)::E,(j,v)::s6,cs,cells,ds,hl,hp,hc,hf=>by
  obtain⟨h1,h2,h3⟩:=hp 0 bj bj;simp only[getElem_cons_zero] at h1 h2 h3;subst h1;have O:=h3.cells h2;have U:v.cells.size=(cellsOf d).length:=(by have:=O.1;simpa using this)
  have Z:cells.size=cs.length:=(by have:=hc.1;simpa using this)
  unfold mz at hf;unfold Instr.fill;cases fD:place i with
  | none=>rw[fD] at hf;simp at hf
  | some os =>
   obtain⟨off,size⟩:=os;simp only[fD] at hf ⊢;rw[U,Z];split at hf
   ·cases hf
   rename_i hn;rw[if_neg hn];refine Fx place E s6 _ _ ds uK (fun i h h'=>hp (i+1) pC (by simpa using h')) ?_ hf;have:=cG.dm (w:=w) (L:=L) (cellsOf d) v.cells.toList cs cells.toList off O hc;rw[←Fa] at this;have e:v.cells.zipIdx.foldl (fun cs (x:Value×Nat)=>cs.setIfInBounds (off+x.2) x.1) cells=v.cells.toList.zipIdx.foldl (fun cs (x:Value×Nat)=>cs.setIfInBounds (off+x.2) x.1) cells:=by
    rw[←Array.foldl_toList,Array.toList_zipIdx]
   rw[e];exact this
theorem cG.s6(w:World)(L:Nat→Prop)(vs:List Value):cG w L (vs.map .v) vs:=⟨by simp,fun i h1 h2=>by simp only[getElem_map];exact .v _⟩
def lW(x:St)(ps:Array (Nat×Operand)):List (Nat×D):=ps.toList.map fun p=>(p.1,aF x p.2)
theorem I7{w:World}(h:bK C x a w)(ps:Array (Nat×Operand))(hj:∀p∈lW x ps,p.2≠.bX):(lW x ps).length=((ps.map fun p=>(p.1,a.eval p.2)).toList).length ∧
  ∀i (h1:i<(lW x ps).length) (h2:i<((ps.map fun p=>(p.1,a.eval p.2)).toList).length),(lW x ps)[i].1=((ps.map fun p=>(p.1,a.eval p.2)).toList)[i].1∧(lW x ps)[i].2≠.bX∧cn w (live C.X x.S) (lW x ps)[i].2 ((ps.map fun p=>(p.1,a.eval p.2)).toList)[i].2:=by
 refine⟨by simp[lW],fun i h1 h2=>⟨?_,hj _ (getElem_mem h1),?_⟩⟩
 ·simp[lW]
 simp only[lW,getElem_map,Array.toList_map];exact h.eval _
theorem aag {E:Array Field} {places:Array (Nat×Nat)} {z:Value} (ho:o.op = .build t ps) (hz:∀w,(zeroValue t).run P w = .ok z w)
  (I:∀w,(underlying t).run P w = .ok (.struct E) w) (hp:∀w,(E.mapM fun f=>do pure (f.offset,←sizeOf f.type):Sem (Array (Nat×Nat))).run P w = .ok places w)
  (hj:∀p∈lW x ps,p.2≠.bX) (hd:mz (places[·]?) (z.cells.toList.map .v) (lW x ps)=some ds):bW P G x o .none (.agg ds):=fun C a w _ h=>by
 obtain⟨q1,q2⟩:=I7 h ps hj;obtain⟨Cn,h1,h2⟩:=Fx (w:=w) (L:=live C.X x.S) (places[·]?) (lW x ps) ((ps.map fun p=>(p.1,a.eval p.2)).toList) _ z.cells ds q1 q2 (cG.s6 _ _ _) hd;refine⟨.agg Cn.toList.toArray,.agg _ _ h2.1 h2.2,fun w' _=>?_⟩;unfold execOp;simp only[ho,Instr.build,hz,I,hp,Sem.run_bind,Result.andThen_ok,h1,Sem.run_pure,Array.toArray_toList]
theorem Z3 {z:Value} (ho:o.op = .build t ps) (hz:∀w,(zeroValue t).run P w = .ok z w)
  (E:∀w,(underlying t).run P w = .ok (.array n e) w) (hs:∀w,(sizeOf e).run P w = .ok sz w)
  (hj:∀p∈lW x ps,p.2≠.bX) (hd:mz (fun i=>some (i*sz,sz)) (z.cells.toList.map .v) (lW x ps)=some ds):bW P G x o .none (.agg ds):=fun C a w _ h=>by
 obtain⟨q1,q2⟩:=I7 h ps hj;obtain⟨Cn,h1,h2⟩:=Fx (w:=w) (L:=live C.X x.S) (fun i=>some (i*sz,sz)) (lW x ps) ((ps.map fun p=>(p.1,a.eval p.2)).toList) _ z.cells ds q1 q2 (cG.s6 _ _ _) hd;refine⟨.agg Cn.toList.toArray,.agg _ _ h2.1 h2.2,fun w' _=>?_⟩;unfold execOp;simp only[ho,Instr.build,hz,E,hs,Sem.run_bind,Result.andThen_ok,h1,Sem.run_pure,Array.toArray_toList]
def ae6(x:St)(t:Nat)(e:TypeId)(len:Nat)(ds:List D)(y:St):Prop:=∃b,y=⟨x.n,(t,.v (.slice (some ⟨b,0,none⟩) len len))::x.env,⟨b,e,ds.length,ds⟩::x.S⟩
theorem IG {len:Nat} {z:Value} {zs:List D} (ho:o.op = .buildSlice t len ps) (jN:o.dst=some tt) (hz:∀w,(zeroValue e).run P w = .ok z w)
  (I:∀w,(underlying t).run P w = .ok (.slice e) w) (hs:∀w,(sizeOf e).run P w = .ok sz w) (hl:0<len*sz) (iu:len*sz≤2 ^ 24) (fb:(Array.range (len*sz)).map (fun i=>z.cells[i % z.cells.size]!)=(zs.map (fun d=>match d with|.v u=>u|_=>undef)).toArray) (O:∀d∈zs,∃u,d = .v u)
  (hj:∀p∈lW x ps,p.2≠.bX) (hd:mz (fun i=>some (i*sz,sz)) zs (lW x ps)=some ds) (hne:isMap e=false:=by rfl):ga P G x o [] (ae6 x tt e len ds):=fun C a w K Q hG h hK=>by
 obtain⟨q1,q2⟩:=I7 h ps hj;have U:cG w (live C.X x.S) zs ((zs.map (fun d=>match d with|.v u=>u|_=>undef)).toArray).toList:=by
  refine⟨by simp,fun i h1 h2=>?_⟩;obtain⟨u,I⟩:=O _ (getElem_mem h1);simp only[getElem_map,I];exact .v _
 obtain⟨Cn,h1,h2⟩:=Fx (w:=w) (L:=live C.X x.S) (fun i=>some (i*sz,sz)) (lW x ps) ((ps.map fun p=>(p.1,a.eval p.2)).toList) _ _ ds q1 q2 U hd;unfold Oper.wp;have:(execOp a.eval o).run P w = .ok (.value (.slice (some ⟨w.heap.size,0,none⟩) len len)) (w.alloc (.cells Cn e)):=by
  unfold execOp;have E:¬len*sz=0:=(by omega)
  have Z:¬len*sz>2 ^ 24:=(by omega)
  simp only[ho,Instr.buildSlice,hz,I,hs,Sem.run_bind,Result.andThen_ok,Sem.run_pure,if_neg E,if_neg Z,fb,h1];simp[newRow]
 rw[this,Oper.upon_value,jN];exact hK _ _ _ ⟨w.heap.size,rfl⟩ (h.new (ds:=ds) h2 (by have:=h2.1;simpa using this) (fun L=>.v _) hne) (mh.alloc _ _) (Fr.alloc _ _ _)
theorem PU(b:Nat):∀(vs:List Value) (o':Nat) (w:World) (cur:Array Value) (e:TypeId),w.heap[b]?=some (.cells cur e (0,0))→o'+vs.length≤cur.size →
  (w.setCells b o' vs).heap[b]?=some (.cells (vs.zipIdx.foldl (fun cs (x:Value×Nat)=>cs.setIfInBounds (o'+x.2) x.1) cur) e (0,0))∧(∀k,k≠b→(w.setCells b o' vs).heap[k]?=w.heap[k]?)∧(w.setCells b o' vs).heap.size=w.heap.size ∧
  (w.setCells b o' vs).os=w.os∧(w.setCells b o' vs).tape=w.tape∧(w.setCells b o' vs).output=w.output
 | [],o',w,cur,e,h,_=>⟨h,fun _ _=>rfl,rfl,rfl,rfl,rfl⟩
 | v::r,o',w,cur,e,h,hl=>by
  have h0:(w.setCell ⟨b,o',none⟩ v).heap[b]?=some (.cells (cur.setIfInBounds o' v) e (0,0)):=by
   simp[World.setCell,Array.getElem?_modify,h]
  obtain⟨i1,i2,i3,i4,i5,i6⟩:=PU b r (o'+1) (w.setCell ⟨b,o',none⟩ v) (cur.setIfInBounds o' v) e h0 (by simp at hl ⊢;omega);refine⟨?_,fun k hk=>?_,?_,i4,i5,i6⟩
  ·rw[World.setCells,i1,zipIdx_cons,foldl_cons,Nat.add_zero,I6 (fun (c:Array Value) v n=>c.setIfInBounds (o'+n) v)];congr 3;funext a b;rw[Nat.add_assoc,Nat.add_comm 1]
  ·rw[World.setCells,i2 k hk,Below.heap_setCell _ _ _ _ hk]
  rw[World.setCells,i3];simp
theorem y6:∀(ds cs:List D) (off:Nat),(dm cs off ds).length=cs.length
 | [],cs,off=>rfl
 | d::ds,cs,off=>by rw[dm,y6 ds];simp
theorem bK.store{w:World}(h:bK C x a w){vs:List Value}(hk:x.S[k]?=some B)(hr:cG w (live C.X x.S) ds vs)(hl:o'+ds.length≤B.cs.length)(hne:isMap B.e=false:=by rfl) :
  bK C ⟨x.n,x.env,x.S.set k {B with cs:=dm B.cs o' ds}⟩ a (w.setCells B.b o' vs)∧mh [B.b] w (w.setCells B.b o' vs)∧Fr w (ax x.S) (w.setCells B.b o' vs) (ax (x.S.set k {B with cs:=dm B.cs o' ds})):=by
 obtain⟨h0,cur,h1,h2,h3,h4⟩:=h.fN hk;rw[kI hne] at h1;have r8:vs.length=ds.length:=hr.1;obtain⟨i1,i2,i3,i4,i5,i6⟩:=PU B.b vs o' w cur B.e h1 w4;have dJ:k<x.S.length:=(List.getElem?_eq_some_iff.1 hk).1;have wv:x.S[k]=B:=(List.getElem?_eq_some_iff.1 hk).2;have E:ax (x.S.set k {B with cs:=dm B.cs o' ds})=ax x.S:=by
  unfold ax;rw[map_set];apply ext_getElem bj;intro i q1 q2;rw[getElem_set];split
  ·rename_i e;subst e;simp[wv]
  rfl
 have I:live C.X (x.S.set k {B with cs:=dm B.cs o' ds})=live C.X x.S:=(by funext b;simp only[live,E])
 have hB:live C.X x.S B.b:=RP hk;have H:∀b,b<w.heap.size→¬live C.X x.S b→(w.setCells B.b o' vs).heap[b]?=w.heap[b]?∧¬live C.X x.S b:=fun b _ hn=>⟨i2 b (fun e=>hn (e ▸ hB)),hn⟩
 refine⟨⟨h.defers,h.size,fun t ht=>?_,⟨fun B' N5=>?_,?_⟩,?_,h.ex,h.eV⟩,⟨by rw[i3];exact Nat.le_refl _,fun b _ hn=>i2 b (by simpa using hn)⟩,?_⟩
 ·simp only[I];exact(h.env t ht).mono H
 ·simp only[I];obtain⟨j,hj,O⟩:=mem_iff_getElem.1 N5;rw[length_set] at hj;rw[getElem_set] at O;by_cases e:k=j
  ·rw[if_pos e] at O;subst O;refine⟨by rw[i3];exact h0,_,i1.trans (by rw[kI hne]),?_,by simp only[y6];exact h3,fun i hi=>?_⟩
   ·have:=Fa vs.zipIdx cur o';have hlen:=congrArg length this;have ajL:∀(l:List (Value×Nat)) (c:List Value),(l.foldl (fun cs (x:Value×Nat)=>cs.set (o'+x.2) x.1) c).length=c.length:=by
     intro l;induction l with
     | nil=>intro c;rfl
     | cons p l ih=>intro c;rw[foldl_cons,ih];simp
    rw[ajL] at hlen;simp only[Array.length_toList] at hlen;rw[hlen,h2]
   have dy:cG w (live C.X x.S) B.cs (cur.toList.take B.cs.length):=by
    refine⟨by simp;omega,fun i q1 q2=>?_⟩;obtain⟨u,hu,hq⟩:=h4 i q1;have:(cur.toList.take B.cs.length)[i]=u:=by
     rw[getElem_take];rw[←Array.getElem?_toList,List.getElem?_eq_some_iff] at hu;exact hu.2
    rw[this];exact hq
   have U:=cG.dm ds vs B.cs (cur.toList.take B.cs.length) o' hr dy;have VT:∀(l:List (Value×Nat)) (c:List Value),(∀p∈l,o'+p.2<B.cs.length)→l.foldl (fun cs (x:Value×Nat)=>cs.set (o'+x.2) x.1) (c.take B.cs.length)=(l.foldl (fun cs (x:Value×Nat)=>cs.set (o'+x.2) x.1) c).take B.cs.length:=by
    intro l;induction l with
    | nil=>intro c _;rfl
    | cons p l ih =>
     intro c hp;rw[foldl_cons,foldl_cons,←ih _ (fun q hq=>hp q (mem_cons_of_mem _ hq)),take_set]
   rw[VT vs.zipIdx cur.toList (fun p hp=>by have:=mem_zipIdx hp;omega),←Fa] at U;simp only at hi;have HV:=hi;rw[←U.1] at HV;have hq:=U.2 i hi HV;rw[getElem_take] at hq;refine⟨_,?_,hq.mono H⟩;rw[←Array.getElem?_toList,getElem?_eq_getElem]
  rw[if_neg e] at O;subst O;have hne:x.S[j].b≠B.b:=fun he=>by
   have hn:=h.own.apart;have DI:(ax x.S)[j]'AU=(ax x.S)[k]'AS:=(by simp[ax,he,wv])
   have hp:=pairwise_iff_getElem.1 hn;rcases Nat.lt_trichotomy j k with Z|Z|Z
   ·exact hp j k AU AS Z DI
   ·exact e Z.symm
   exact hp k j AS AU Z DI.symm
  obtain⟨r0,l8,r1,r2,r3,r4⟩:=h.own.at_ x.S[j] (getElem_mem hj);refine⟨by rw[i3];exact r0,l8,(i2 _ hne).trans r1,r2,r3,fun i hi=>?_⟩;obtain⟨u,hu,hq⟩:=r4 i hi;exact⟨u,hu,hq.mono H⟩
 ·simp only[E];exact h.own.apart
 ·refine⟨i4.trans h.fr.os,i5.trans h.fr.tape,i6.trans h.fr.output,by rw[i3];exact h.fr.size,fun b hb hn=>?_⟩;obtain⟨q1,q2⟩:=h.fr.block b hb hn;refine⟨(i2 b (fun e=>q2 (e ▸ mem_map.2 ⟨B,mem_of_getElem? hk,rfl⟩))).trans q1,?_⟩;simp only[E];exact q2
 rw[E];exact⟨i4,i5,i6,by rw[i3];exact Nat.le_refl _,fun b hb hn=>⟨i2 b (fun e=>hn (e ▸ mem_map.2 ⟨B,mem_of_getElem? hk,rfl⟩)),hn⟩⟩
theorem Fb {d:D} {z:Operand} (ho:o.op = .store t y z) (jN:o.dst=none) (hy:aF x y = .v (.pointer (some ⟨b,o',none⟩)))
  (hk:x.S[k]?=some B) (hb:B.b=b) (hz:aF x z=d) (hj:d≠.bX) (h1:(cellsOf d).all one=true) (hn:∀w,(sizeOf t).run P w = .ok n w) (gC:(cellsOf d).length=n) (hl:o'+n≤B.cs.length) (dy:dm B.cs o' (cellsOf d)=cs') (hne:isMap B.e=false:=by rfl) :
  ga P G x o [b] (fun y=>y=⟨x.n,x.env,x.S.set k {B with cs:=cs'}⟩):=fun C a w K Q hG h hK=>by
 subst dy hb;have hr:=h.eval z;rw[hz] at hr;have hc:=hr.cells hj;obtain⟨s1,s2,s3⟩:=h.store hk hc (o':=o') w4 hne;obtain⟨h0,cur,q1,q2,q3,q4⟩:=h.fN hk;rw[kI hne] at q1;have U:(a.eval z).cells.toList.length=n:=(by rw[hc.1,gC])
 have E:=run_storeCells_cells (P:=P) B.b o' (a.eval z).cells.toList 0 w (fun j hj=>by
   have:(o'+0+j)<cur.size:=(by omega)
   rw[ou q1 (u:=cur[o'+0+j]) (by simp[this])];rfl)
  (fun j hj=>by unfold World.frozen?;simp[q1]) (fun v hv=>by
   obtain⟨j,hj,rfl⟩:=mem_iff_getElem.1 hv;have O:j<(cellsOf d).length:=(by rw[←hc.1];exact hj)
   exact(hc.2 j O hj).BS (all_eq_true.1 h1 _ (getElem_mem O)))
 have I:(execOp a.eval o).run P w = .ok .skip (w.setCells B.b o' (a.eval z).cells.toList):=by
  unfold execOp;have Z:(a.eval z).cells.size=n:=(by simpa using U)
  simp only[Nat.add_zero] at E;simp[ho,h.flat hy,Instr.storeAt,Instr.sureAddr,storeVar,hn,Z,E]
 unfold Oper.wp;rw[I,Oper.upon_skip,jN];exact hK _ _ _ rfl s1 s2 s3

structure HW (G:List (Nat×List Value)) (X:Nat→Prop) (w:World) (S:List ah) (args:List D) (vs:List Value):Prop where
 ex:∀b,X b→b<w.heap.size∧b∉ax S
 eV:∀g∈G,(g.1<w.heap.size∧g.1∉ax S∧¬X g.1)∧∀i v,g.2[i]?=some v→ox w g.1 i v
 own:Own w (live X S) S
 args:cG w (live X S) args vs
def VC(P:Program)(G:List (Nat×List Value))(f:FuncId)(args:List D)(S:List ah)(post:D→List ah→Prop):Prop :=
 ∀(X:Nat→Prop) (w:World) (vs:List Value),HW G X w S args vs→Calls P f vs.toArray w fun e w'=>∃v r S',e = .returned v∧post r S'∧Own w' (live X S') S'∧cn w' (live X S') r v∧Fr w (ax S) w' (ax S')
theorem VC.mono{f:FuncId}{args:List D}{S:List ah}{post E:D→List ah→Prop}(h:VC P G f args S post)(k:∀r S',post r S'→E r S'):VC P G f args S E:=fun X w vs hp =>
 (h X w vs hp).mono fun e w' ⟨v,r,S',h1,h2,h3⟩=>⟨v,r,S',h1,k r S' h2,h3⟩
abbrev VP(P:Program)(G:List (Nat×List Value))(f:FuncId)(args:List D)(r:D):Prop:=VC P G f args [] fun r' S'=>r'=r∧S'=[]
theorem ze(hp:S.Perm (Sf++R)):live X S=live (fun b=>X b∨b∈ax R) Sf:=by
 funext b;have:(ax S).Perm (ax Sf++ax R):=(by have:=hp.map ah.b;simpa[ax] using this)
 have:=this.mem_iff (a:=b);simp only[live,mem_append] at *;rw[this];exact propext ⟨fun h=>by rcases h with h|h|h<;>simp[h],fun h=>by rcases h with (h|h)|h<;>simp[h]⟩
theorem bK.call{w:World}(h:bK C x a w)(hG:C.G=G){f:FuncId}{args:List D}{vs:List Value}(hc:VC P G f args Sf post)(hp:x.S.Perm (Sf++R))(hr:cG w (live C.X x.S) args vs) :
  Calls P f vs.toArray w fun e w'=>∃v r S',e = .returned v∧post r S'∧cn w' (live C.X (S'++R)) r v∧bK C ⟨x.n,x.env,S'++R⟩ a w'∧mh (ax Sf) w w'∧Fr w (ax x.S) w' (ax (S'++R)):=by
 have hb:(ax x.S).Perm (ax Sf++ax R):=(by have:=hp.map ah.b;simpa[ax] using this)
 have hL:=ze (X:=C.X) hp;have hnd:(ax Sf++ax R).Nodup:=hb.nodup_iff.1 h.own.apart;obtain⟨n1,n2,n3⟩:=nodup_append.1 hnd;have U:∀b,b∈ax R→b<w.heap.size:=fun b yx=>by
  obtain⟨B,O,rfl⟩:=mem_map.1 yx;exact(h.own.at_ B (hp.symm.subset (mem_append_right _ O))).1
 have Z:HW G (fun b=>C.X b∨b∈ax R) w Sf args vs:=by
  refine⟨fun b hx=>?_,fun g hg=>?_,⟨fun B O=>?_,n1⟩,?_⟩
  ·rcases hx with hx|hx
   ·obtain⟨q1,q2⟩:=h.ex b hx;exact⟨Nat.lt_of_lt_of_le q1 h.fr.size,fun hm=>(h.fr.block b q1 q2).2 (hb.symm.subset (mem_append_left _ hm))⟩
   exact⟨U b hx,fun hm=>n3 b hm b hx rfl⟩
  ·rw[←hG] at hg;obtain⟨⟨q1,q2,q3⟩,q4⟩:=h.eV g hg;have q5:=(h.fr.block g.1 q1 q2).2;refine⟨⟨Nat.lt_of_lt_of_le q1 h.fr.size,fun hm=>q5 (hb.symm.subset (mem_append_left _ hm)),fun hx=>?_⟩,fun i v hi=>h.aU hg hi⟩;rcases hx with hx|hx
   ·exact q3 hx
   exact q5 (hb.symm.subset (mem_append_right _ hx))
  ·rw[←hL];exact h.own.at_ B (hp.symm.subset (mem_append_left _ O))
  rw[←hL];exact hr
 refine(hc _ w vs Z).mono fun e w' ⟨v,r,S',h1,h2,h3,h4,h5⟩=>⟨v,r,S',h1,h2,?_,?_,⟨h5.size,fun b I hn=>(h5.block b I hn).1⟩,?_⟩
 ·have:live C.X (S'++R)=live (fun b=>C.X b∨b∈ax R) S':=ze (Perm.refl _);rw[this];exact h4
 ·have Yv:live C.X (S'++R)=live (fun b=>C.X b∨b∈ax R) S':=ze (Perm.refl _);have H:∀b,b<w.heap.size→¬live C.X x.S b→w'.heap[b]?=w.heap[b]?∧¬live C.X (S'++R) b:=fun b aa hn=>by
   rw[hL] at hn;have E:b∉ax Sf:=fun hm=>hn (.inr hm);obtain⟨q1,q2⟩:=h5.block b aa E;refine⟨q1,fun hl=>?_⟩;rw[Yv] at hl;rcases hl with hl|hl
   ·exact hn (.inl hl)
   exact q2 hl
  refine⟨h.defers,h.size,fun t ht=>(h.env t ht).mono H,⟨fun B O=>?_,?_⟩,?_,h.ex,h.eV⟩
  ·rcases mem_append.1 O with O|O
   ·have:=h3.at_ B O;rw[←Yv] at this;exact this
   obtain⟨r0,cur,r1,r2,r3,r4⟩:=h.own.at_ B (hp.symm.subset (mem_append_right _ O));have DJ:B.b∈ax R:=mem_map.2 ⟨B,O,rfl⟩;have E:B.b∉ax Sf:=fun hm=>n3 B.b hm B.b DJ rfl;have hh:=(h5.block B.b r0 E).1;refine⟨rC r0 hh,cur,hh.trans r1,r2,r3,fun i hi=>?_⟩;obtain⟨u,hu,hq⟩:=r4 i hi;exact⟨u,hu,hq.mono H⟩
  ·show(ax (S'++R)).Nodup;have:ax (S'++R)=ax S'++ax R:=(by simp[ax])
   rw[this];refine nodup_append.2 ⟨h3.apart,n2,fun b jd c aY he=>?_⟩;subst he;have E:b∉ax Sf:=fun hm=>n3 b hm b aY rfl;exact(h5.block b (U b aY) E).2 jd
  refine⟨h5.os.trans h.fr.os,h5.tape.trans h.fr.tape,h5.output.trans h.fr.output,Nat.le_trans h.fr.size h5.size,fun b I hn=>?_⟩;obtain⟨q1,q2⟩:=h.fr.block b I hn;have gI:b∉ax Sf:=fun hm=>q2 (hb.symm.subset (mem_append_left _ hm));have gJ:b∉ax R:=fun hm=>q2 (hb.symm.subset (mem_append_right _ hm));obtain⟨q3,q4⟩:=h5.block b (Nat.lt_of_lt_of_le I h.fr.size) gI;refine⟨q3.trans q1,fun hm=>?_⟩;have:ax (S'++R)=ax S'++ax R:=(by simp[ax])
  rw[this] at hm;rcases mem_append.1 hm with hm|hm
  ·exact q4 hm
  exact gJ hm
 refine⟨h5.os,h5.tape,h5.output,h5.size,fun b I hn=>?_⟩;have gI:b∉ax Sf:=fun hm=>hn (hb.symm.subset (mem_append_left _ hm));have gJ:b∉ax R:=fun hm=>hn (hb.symm.subset (mem_append_right _ hm));obtain⟨q3,q4⟩:=h5.block b I gI;refine⟨q3,fun hm=>?_⟩;have:ax (S'++R)=ax S'++ax R:=(by simp[ax])
 rw[this] at hm;rcases mem_append.1 hm with hm|hm
 ·exact q4 hm
 exact gJ hm
theorem cG.Mu{w:World}(h:bK C x a w)(de:List Operand):cG w (live C.X x.S) (de.map (aF x)) (de.map a.eval) :=
 ⟨by simp,fun i h1 h2=>by simp only[getElem_map];exact h.eval _⟩
theorem cG.append{w:World}{E:List D}{vs I:List Value}(h:cG w L ds vs)(h':cG w L E I):cG w L (ds++E) (vs++I) :=
 ⟨by simp[h.1,h'.1],fun i h1 h2=>by
  by_cases hi:i<ds.length
  ·rw[getElem_append_left hi,getElem_append_left (by rw[h.1];exact hi)];exact h.2 i _ _
  rw[getElem_append_right w4,getElem_append_right (by rw[h.1];omega)];have:=h.1;simp only[this];exact h'.2 _ _ _⟩
def called(x:St)(t:Nat)(R:List ah)(post:D→List ah→Prop)(y:St):Prop:=∃r S',post r S'∧y=⟨x.n,(t,r)::x.env,S'++R⟩
theorem BU {f t:Nat} {args:List D} (ho:o.op = .call {callee:=.value fo,args:=de,argTypes:=ts}) (hd:o.dst=some t)
  (hf:fo = .func f) (fG:∀args w,(callFunc f args).run P w = .ok (.enter f args) w) (ha:de.toList.map (aF x)=args) (hp:x.S.Perm (Sf++R)) (hc:VC P G f args Sf post) :
  ga P G x o (ax Sf) (called x t R post):=fun C a w K Q hG h hK=>by
 subst hf ha;have hr:=cG.Mu h de.toList;have E:(execOp a.eval o).run P w = .ok (.enter f (de.toList.map a.eval).toArray) w:=by
  unfold execOp;have e:de.map a.eval=(de.toList.map a.eval).toArray:=by
   rw[←Array.toList_map,Array.toArray_toList]
  simp only[ho,resolve,Act.eval,Deferred.ofValue,Sem.run_bind,Sem.run_pure,Result.andThen_ok,invoke,e];simp[fG]
 unfold Oper.wp;rw[E,Oper.upon_enter,hd];refine(h.call hG hc hp hr).mono fun e w' ⟨v,r,S',h1,h2,h3,h4,h5,h6⟩=>?_;subst h1;exact hK _ _ _ ⟨r,S',h2,rfl⟩ (h4.put h3) h5 h6
theorem abt {f t:Nat} {args E:List D} (ho:o.op = .call {callee:=.value fo,args:=de,argTypes:=ts}) (hd:o.dst=some t)
  (hf:aF x fo = .eH (.func f) E) (fG:∀args w,(callFunc f args).run P w = .ok (.enter f args) w) (ha:de.toList.map (aF x)++E=args) (hp:x.S.Perm (Sf++R)) (hc:VC P G f args Sf post) :
  ga P G x o (ax Sf) (called x t R post):=fun C a w K Q hG h hK=>by
 subst ha;have hr:=cG.Mu h de.toList;have fE:=h.eval fo;rw[hf] at fE;generalize hg:a.eval fo=u at fE;cases fE with
 | eH _ _ vs hl XH =>
  have I:(execOp a.eval o).run P w = .ok (.enter f (de.toList.map a.eval++vs).toArray) w:=by
   unfold execOp;have e:de.map a.eval++vs.toArray=(de.toList.map a.eval++vs).toArray:=by
    rw[←append_toArray,←Array.toList_map,Array.toArray_toList]
   simp only[ho,resolve,hg,Deferred.ofValue,Sem.run_bind,Sem.run_pure,Result.andThen_ok,invoke];simp[fG]
  unfold Oper.wp;rw[I,Oper.upon_enter,hd];refine(h.call hG hc hp (hr.append ⟨hl,XH⟩)).mono fun e w' ⟨v,r,S',h1,h2,h3,h4,h5,h6⟩=>?_;subst h1;exact hK _ _ _ ⟨r,S',h2,rfl⟩ (h4.put h3) h5 h6
theorem vg(hk:S[k]?=some B):S.Perm (B::S.eraseIdx k):=by
 obtain⟨h1,h2⟩:=List.getElem?_eq_some_iff.1 hk;subst h2;clear hk;induction S generalizing k with
 | nil=>simp at h1
 | cons A S ih =>
  cases k with
  | zero=>exact Perm.refl _
  | succ k =>
   have E:k<S.length:=(by simpa using h1)
   rw[eraseIdx_cons_succ];exact((ih E).cons A).trans (Perm.swap _ _ _)
theorem fg(S:List ah):S.Perm ([]++S):=Perm.refl _
theorem mN(hk:S[k]?=some B):S.Perm ([B]++S.eraseIdx k):=vg hk
theorem JG{k':Nat}{B':ah}(hk:S[k]?=some B)(E:(S.eraseIdx k)[k']?=some B'):S.Perm ([B,B']++(S.eraseIdx k).eraseIdx k'):=(vg hk).trans ((vg E).cons B)
theorem cn.xJ{w:World}(h:Own w (live X S) S)(O:∀b,X b→b∉ax S)(hk:S[k]?=some B)(hl:B.cs.length=n*sz)(h1:n≤cap)(h2:cap≤maxLen)(hne:isMap B.e=false:=by rfl) :
  cn w (live X (S.eraseIdx k)) (.list sz B.cs n) (.slice (some ⟨B.b,0,none⟩) n cap):=by
 have hm:=mem_of_getElem? hk;obtain⟨r0,cur,r1,r2,U,I⟩:=h.at_ B hm;rw[kI hne] at r1;have E:(ax (S.eraseIdx k)).Sublist (ax S):=Sublist.map _ (eraseIdx_sublist S k);have hL:¬live X (S.eraseIdx k) B.b:=fun hl=>by
  rcases hl with hl|hl
  ·exact O _ hl (mem_map.2 ⟨B,hm,rfl⟩)
  have hp:(ax S).Perm (B.b::ax (S.eraseIdx k)):=(by have:=(vg hk).map ah.b;simpa[ax] using this)
  have hnd:=hp.nodup_iff.1 h.apart;exact(nodup_cons.1 hnd).1 hl
 refine .list sz B.cs n B.b 0 cap (fun i=>cur.getD i undef) hl h1 h2 r0 hL (fun i hi=>?_) (fun i hi=>?_)
 ·obtain⟨u,hu,_⟩:=I i hi;rw[Nat.zero_add,ou r1 hu];simp[hu]
 obtain⟨u,hu,hq⟩:=I i hi;simp only[Array.getD_eq_getD_getElem?,hu,Option.getD_some];exact hq.mono fun b _ hn=>⟨rfl,fun hl=>hn (hl.imp id fun q=>E.subset q)⟩
theorem bK.A6{w:World}(h:bK C x a w):∀b,C.X b→b∉ax x.S:=fun b hb=>(h.fr.block b (h.ex b hb).1 (h.ex b hb).2).2
theorem Wk.vR{t:Nat}{cs:List D}(hk:S[k]?=some B)(ht:look t l = .v (.slice (some ⟨B.b,0,none⟩) m cap))(dy:B.cs=cs)(hl:cs.length=m*sz)(h1:m≤cap)(h2:cap≤maxLen)(hne:isMap B.e=false:=by rfl) :
  Wk ⟨n,l,S⟩ ⟨n,(t,.list sz cs m)::l,S.eraseIdx k⟩:=fun C a w h=>by
 subst dy;have hd:=Wk.drop n l S (S.eraseIdx k) (eraseIdx_sublist S k) C a w h;refine⟨hd.defers,hd.size,fun i hi=>?_,hd.own,hd.fr,hd.ex,hd.eV⟩;simp only[gh];by_cases e:t=i
 ·subst e;rw[if_pos rfl];have hv:=h.env t hi;simp only[ht] at hv;rw[hv.k8];exact cn.xJ h.own h.A6 hk hl h1 h2 hne
 rw[if_neg e];exact hd.env i hi
theorem Wk.ue{t:Nat}(ht:look t l = .v (.slice none 0 0)):Wk ⟨n,l,S⟩ ⟨n,(t,.list sz [] 0)::l,S⟩:=fun C a w h=>by
 refine⟨h.defers,h.size,fun i hi=>?_,h.own,h.fr,h.ex,h.eV⟩;simp only[gh];by_cases e:t=i
 ·subst e;rw[if_pos rfl];have hv:=h.env t hi;simp only[ht] at hv;rw[hv.k8];exact .nil sz
 rw[if_neg e];exact h.env i hi
theorem Wk.agM {A:ah} {cs:List D} (hk:S[k]?=some B) (hj:(S.eraseIdx k)[j]?=some A) (hi:A.cs[i]?=some (.v (.slice (some ⟨B.b,0,none⟩) m cap))) (dy:B.cs=cs) (hl:cs.length=m*sz) (h1:m≤cap) (h2:cap≤maxLen)
  (U:A.cs.set i (.list sz cs m)=cs') (hS:(S.eraseIdx k).set j {A with cs:=cs'}=S') (hne:isMap B.e=false:=by rfl):Wk ⟨n,l,S⟩ ⟨n,l,S'⟩:=fun C a w h=>by
 subst dy U hS;have hd:=Wk.drop n l S (S.eraseIdx k) (eraseIdx_sublist S k) C a w h;have Z:=cn.xJ h.own h.A6 hk hl h1 h2 hne;have jQ:=(List.getElem?_eq_some_iff.1 hj).1;have hjA:=(List.getElem?_eq_some_iff.1 hj).2;have E:ax ((S.eraseIdx k).set j {A with cs:=A.cs.set i (.list sz B.cs m)})=ax (S.eraseIdx k):=by
  unfold ax;rw[map_set];apply ext_getElem bj;intro i q1 q2;rw[getElem_set];split
  ·rename_i e;subst e;simp[hjA]
  rfl
 have I:live C.X ((S.eraseIdx k).set j {A with cs:=A.cs.set i (.list sz B.cs m)})=live C.X (S.eraseIdx k):=(by funext b;simp only[live,E])
 refine⟨hd.defers,hd.size,fun t ht=>?_,⟨fun B' N5=>?_,?_⟩,?_,hd.ex,hd.eV⟩
 ·simp only[I];exact hd.env t ht
 ·simp only[I];obtain⟨p,hp,ir⟩:=mem_iff_getElem.1 N5;rw[length_set] at hp;rw[getElem_set] at ir;by_cases e:j=p
  ·rw[if_pos e] at ir;subst ir;obtain⟨r0,cur,r1,r2,r3,r4⟩:=hd.own.at_ A (mem_of_getElem? hj);refine⟨r0,cur,r1,r2,by simpa using r3,fun q hq=>?_⟩;simp only[length_set] at hq;obtain⟨u,hu,O⟩:=r4 q hq;refine⟨u,hu,?_⟩;rw[getElem_set];split
   ·rename_i he;subst he;have:=(List.getElem?_eq_some_iff.1 hi).2;rw[this] at O;rw[O.k8];exact Z
   exact O
  rw[if_neg e] at ir;subst ir;exact hd.own.at_ _ (getElem_mem hp)
 ·simp only[E];exact hd.own.apart
 simp only[E];exact hd.fr

def TN(x:St)(t:Nat)(e:TypeId)(sz len:Nat)(cs:List D)(S:List ah)(y:St):Prop :=
 ∃b cap,len≤cap∧cap≤maxLen∧y=⟨x.n,(t,.v (.slice (some ⟨b,0,none⟩) len cap))::x.env,⟨b,e,cap*sz,cs⟩::S⟩
theorem bK.grown {w:World} (h:bK C x a w) {t g e:Nat} {row:Option Nat} {cs:List D}
  (hS:S.Sublist x.S) (I:∀k,row=some k→k∈ax x.S∧k∉ax S) (E:w.grownBy w' row) (hg:row=some g∨g=w.heap.size) (aa:g<w'.heap.size)
  (CU:w'.heap[g]?=some (.cells cur e (0,0))) (iK:cur.size=cap*sz) (hl:cs.length≤cap*sz) (hr:∀i (h:i<cs.length),∃u,cur[i]?=some u∧cn w (live C.X x.S) cs[i] u) (hne:isMap e=false:=by rfl) :
  bK C ⟨x.n,(t,.v (.slice (some ⟨g,0,none⟩) m cap))::x.env,⟨g,e,cap*sz,cs⟩::S⟩ (a.put (some t) (.slice (some ⟨g,0,none⟩) m cap)) w'∧mh row.toList w w'∧Fr w (ax x.S) w' (ax (⟨g,e,cap*sz,cs⟩::S)):=by
 have O:(ax S).Sublist (ax x.S):=Sublist.map _ hS;have Z:∀b,live C.X x.S b→b<w.heap.size:=fun b hb=>by
  rcases hb with hb|hb
  ·exact Nat.lt_of_lt_of_le (h.ex b hb).1 h.fr.size
  obtain⟨B,hB,rfl⟩:=mem_map.1 hb;exact(h.own.at_ B hB).1
 have hgS:g∉ax S:=by
  rcases hg with hg|hg
  ·exact(I g hg).2
  intro hm;have:=Z g (.inr (O.subset hm));omega
 have hgX:¬C.X g:=fun hx=>by
  rcases hg with hg|hg
  ·exact h.A6 g hx (I g hg).1
  have:=Z g (.inl hx);omega
 have U:g<w.heap.size→g∈ax x.S:=fun aa=>by
  rcases hg with hg|hg
  ·exact(I g hg).1
  omega
 have H:∀b,b<w.heap.size→¬live C.X x.S b→w'.heap[b]?=w.heap[b]?∧¬live C.X (⟨g,e,cap*sz,cs⟩::S) b:=fun b hb hn=>by
  refine⟨E.block b hb (fun hm=>hn (.inr (I b hm.symm).1)),fun hl=>?_⟩;rcases hl with hl|hl
  ·exact hn (.inl hl)
  simp only[ax,map_cons,mem_cons] at hl;rcases hl with hl|hl
  ·subst hl;exact hn (.inr (U hb))
  exact hn (.inr (O.subset hl))
 have base:bK C ⟨x.n,x.env,⟨g,e,cap*sz,cs⟩::S⟩ a w':=by
  refine⟨h.defers,h.size,fun t ht=>(h.env t ht).mono H,⟨fun B hB=>?_,?_⟩,?_,h.ex,h.eV⟩
  ·rcases mem_cons.1 hB with rfl|hB
   ·refine⟨aa,cur,CU.trans (by rw[kI hne]),iK,hl,fun i hi=>?_⟩;obtain⟨u,hu,hq⟩:=hr i hi;exact⟨u,hu,hq.mono H⟩
   obtain⟨r0,l8,r1,r2,r3,r4⟩:=h.own.at_ B (hS.subset hB);have DJ:B.b∈ax S:=mem_map.2 ⟨B,hB,rfl⟩;have hh:=E.block B.b r0 (fun hm=>(I B.b hm.symm).2 DJ);refine⟨rC r0 hh,l8,hh.trans r1,r2,r3,fun i hi=>?_⟩;obtain⟨u,hu,hq⟩:=r4 i hi;exact⟨u,hu,hq.mono H⟩
  ·show(g::ax S).Nodup;exact nodup_cons.2 ⟨hgS,h.own.apart.sublist O⟩
  refine⟨E.os.trans h.fr.os,E.tape.trans h.fr.tape,E.output.trans h.fr.output,Nat.le_trans h.fr.size E.size,fun b hb hn=>?_⟩;obtain⟨q1,q2⟩:=h.fr.block b hb hn;have jW:=Nat.lt_of_lt_of_le hb h.fr.size;refine⟨(E.block b jW (fun hm=>q2 (I b hm.symm).1)).trans q1,fun hm=>?_⟩;simp only[ax,map_cons,mem_cons] at hm;rcases hm with hm|hm
  ·subst hm;exact q2 (U jW)
  exact q2 (O.subset hm)
 refine⟨base.put (.v _),⟨E.size,fun b hb hn=>E.block b hb (fun hm=>hn (by rw[←hm];simp))⟩,⟨E.os,E.tape,E.output,E.size,fun b hb hn=>?_⟩⟩;refine⟨E.block b hb (fun hm=>hn (I b hm.symm).1),fun hm=>?_⟩;simp only[ax,map_cons,mem_cons] at hm;rcases hm with hm|hm
 ·subst hm;exact hn (U hb)
 exact hn (O.subset hm)
theorem BA {s:Operand} {t:Nat} {I:Value} {w:World} (ho:o.op = .call {callee:=.builtin .append,args:=#[s,y],argTypes:=#[t,t]}) (hs:a.eval s=v) (hy:a.eval y=u)
  (E:(Builtin.append_ #[t,t] o.type #[v,u]).run P w = .ok I w'):(execOp a.eval o).run P w = .ok (.value I) w':=by
 unfold execOp;simp[ho,resolve,invoke,builtin,hs,hy,E]
theorem zx{e:Nat}{z:Value}(hi:(P.info? e).map (fun i=>(i.zero,i.size,i.bytes))=some (some z,sz,bytes)):∃i,P.info? e=some i∧i.zero=some z∧i.size=sz∧i.bytes=bytes:=by
 cases h:P.info? e with
 | none=>simp[h] at hi
 | some i=>simp[h] at hi;exact⟨i,rfl,hi⟩
theorem Qj {s:Operand} {t e:Nat} {z:Value} {cs:List D} (ho:o.op = .call {callee:=.builtin .append,args:=#[s,y],argTypes:=#[t,t]}) (hd:o.dst=some tt)
  (ht:P.underlying t=some (.slice e)) (hi:(P.info? e).map (fun i=>(i.zero,i.size,i.bytes))=some (some z,sz,bytes)) (fb:z.cells.size=sz) (iK:0<sz)
  (hs:aF x s = .v (.slice (some ⟨b,0,none⟩) n cap)) (hk:x.S[k]?=some B) (hb:B.b=b) (he:B.e=e) (apT:B.size=cap*sz) (hl:B.cs.length=n*sz) (hn:n≤cap) (Z:cap≤maxLen)
  (hy:aF x y = .list sz cs m) (iq:∀d∈cs,one d=true) (hm:0<m) (gK:n+m≤maxLen) (O:(n+m)*bytes≤140737488355328) (hne:isMap B.e=false:=by rfl) :
  ga P G x o [b] (TN x tt e sz (n+m) (B.cs++cs) (x.S.eraseIdx k)):=fun C a w K Q hG h hK=>by
 subst hb he;obtain⟨i,kC,lQ,pG,qt⟩:=zx hi;obtain⟨r0,cur,r1,r2,r3,r4⟩:=h.fN hk;rw[kI hne] at r1;have hr:=h.eval y;rw[hy] at hr;generalize hg:a.eval y=u at hr;cases hr with
 | mB=>omega
 | list _ _ _ b' o' I f mi q1 q2 jW hL hc A7 =>
  have jz:w.ownsRow 0 B.e sz (.slice (some ⟨B.b,0,none⟩) n cap) n (cur.toList.take (n*sz)) :=
   ⟨by simp;omega,.inr ⟨B.b,cap,cur,rfl,Nat.zero_le _,r1,hn,Z,by omega,rfl⟩⟩
  obtain⟨v',w',nY,h2,h3,_,h5⟩:=run_append_own_at (P:=P) w 0 t o.type B.e i z sz bytes ht kC lQ pG qt fb iK _ n _ jz ⟨b',o',none⟩ m I ((range cs.length).map f) (by simp[mi]) (fun j u hu=>by
    rw[Addr.add_mid];obtain⟨hj,he⟩:=List.getElem?_eq_some_iff.1 hu;simp only[length_map,length_range] at hj;rw[hc j hj,←he];simp) (fun u hu=>by
    obtain⟨j,hj,rfl⟩:=mem_map.1 hu;have jD:=mem_range.1 hj;exact(A7 j jD).BS (iq _ (getElem_mem jD))) gK O (Nat.zero_le _)
  obtain⟨g,E,rfl,_,aa⟩:=h2.form w4;have h6:(Value.slice (some ⟨B.b,0,none⟩) n cap).ownBlock=some g∨g=w.heap.size:=by
   rcases h5 with h5|h5
   ·exact .inl (by rw[←h5];rfl)
   right;simpa[Value.ownBlock] using h5
  obtain⟨_,h2⟩:=h2;rcases h2 with ⟨h2,_⟩|⟨g',I,l8,e1,_,e2,e3,e4,e5,e6⟩
  ·cases h2
  have DK:g=g'∧E=I:=(by simpa using e1)
  obtain⟨rfl,rfl⟩:=DK;have hlen:(B.cs++cs).length=(n+m)*sz:=(by rw[length_append,hl,mi,Nat.add_mul])
  have N6:(n+m)*sz≤E*sz:=Nat.mul_le_mul_right _ e3;have CU:∀i,i<(n+m)*sz→l8[i]?=(cur.toList.take (n*sz)++(range cs.length).map f)[i]?:=fun i hi=>by
   rw[←e6,getElem?_take_of_lt hi,Array.getElem?_toList]
  obtain⟨s1,s2,s3⟩:=h.grown (t:=tt) (m:=n+m) (e:=B.e) (sz:=sz) (S:=x.S.eraseIdx k) (cs:=B.cs++cs) (row:=some B.b) (g:=g) (cap:=E) (eraseIdx_sublist _ _) (fun k' rm=>by
    have:B.b=k':=(by simpa using rm)
    subst this;refine⟨mem_map.2 ⟨B,mem_of_getElem? hk,rfl⟩,fun hm=>?_⟩;have hp:(ax x.S).Perm (B.b::ax (x.S.eraseIdx k)):=(by have:=(vg hk).map ah.b;simpa[ax] using this)
    exact(nodup_cons.1 (hp.nodup_iff.1 h.own.apart)).1 hm) h3 h6 aa e2 e5 w4 (fun i hi=>by
    rw[hlen] at hi;rw[CU i hi];by_cases dc:i<n*sz
    ·obtain⟨u,hu,hq⟩:=r4 i w4;refine⟨u,?_,?_⟩
     ·rw[getElem?_append_left iB,getElem?_take_of_lt dc,Array.getElem?_toList,hu]
     rw[getElem_append_left w4];exact hq
    have U:i-n*sz<cs.length:=(by rw[mi];rw[Nat.add_mul] at hi;omega)
    refine⟨f (i-n*sz),?_,?_⟩
    ·rw[getElem?_append_right iB];have:(cur.toList.take (n*sz)).length=n*sz:=(by simp;omega)
     rw[this];simp[U]
    rw[getElem_append_right w4];have:=A7 (i-n*sz) U;simp only[hl];exact this) hne
  unfold Oper.wp;rw[BA (P:=P) ho (h.flat hs) hg nY,Oper.upon_value,hd];exact hK _ _ _ ⟨g,E,e3,e4,rfl⟩ s1 s2 s3
theorem PV {s:Operand} {t e:Nat} {z:Value} {cs:List D} (ho:o.op = .call {callee:=.builtin .append,args:=#[s,y],argTypes:=#[t,t]}) (hd:o.dst=some tt)
  (ht:P.underlying t=some (.slice e)) (hi:(P.info? e).map (fun i=>(i.zero,i.size,i.bytes))=some (some z,sz,bytes)) (fb:z.cells.size=sz) (iK:0<sz)
  (hs:aF x s = .v (.slice none 0 0)) (hy:aF x y = .list sz cs m) (iq:∀d∈cs,one d=true) (hm:0<m) (gK:m≤maxLen) (O:m*bytes≤140737488355328) (hne:isMap e=false:=by rfl) :
  ga P G x o [] (TN x tt e sz m cs x.S):=fun C a w K Q hG h hK=>by
 obtain⟨i,kC,lQ,pG,qt⟩:=zx hi;have hr:=h.eval y;rw[hy] at hr;generalize hg:a.eval y=u at hr;cases hr with
 | mB=>omega
 | list _ _ _ b' o' I f mi q1 q2 jW hL hc U =>
  have Z:w.ownsRow 0 e sz (.slice none 0 0) 0 []:=⟨by simp,.inl ⟨rfl,rfl⟩⟩
  obtain⟨v',w',nY,h2,h3,_,h5⟩:=run_append_own_at (P:=P) w 0 t o.type e i z sz bytes ht kC lQ pG qt fb iK _ 0 _ Z ⟨b',o',none⟩ m I ((range cs.length).map f) (by simp[mi]) (fun j u hu=>by
    rw[Addr.add_mid];obtain⟨hj,he⟩:=List.getElem?_eq_some_iff.1 hu;simp only[length_map,length_range] at hj;rw[hc j hj,←he];simp) (fun u hu=>by
    obtain⟨j,hj,rfl⟩:=mem_map.1 hu;have jD:=mem_range.1 hj;exact(U j jD).BS (iq _ (getElem_mem jD))) (by rw[Nat.zero_add];exact gK) (by rw[Nat.zero_add];exact O) (Nat.zero_le _)
  simp only[Nat.zero_add,nil_append] at h2;obtain⟨g,E,rfl,_,aa⟩:=h2.form w4;have h6:(none:Option Nat)=some g∨g=w.heap.size:=by
   rcases h5 with h5|h5
   ·simp[Value.ownBlock] at h5
   right;simpa[Value.ownBlock] using h5
  obtain⟨_,h2⟩:=h2;rcases h2 with ⟨h2,_⟩|⟨g',I,l8,e1,_,e2,e3,e4,e5,e6⟩
  ·cases h2
  have DK:g=g'∧E=I:=(by simpa using e1)
  obtain⟨rfl,rfl⟩:=DK;have N6:m*sz≤E*sz:=Nat.mul_le_mul_right _ e3;obtain⟨s1,s2,s3⟩:=h.grown (t:=tt) (m:=m) (e:=e) (sz:=sz) (S:=x.S) (cs:=cs) (row:=none) (g:=g) (cap:=E) (Sublist.refl _) (fun k' rm=>by cases rm) h3 h6 aa e2 e5 w4 (fun i hi=>by
    refine⟨f i,?_,U i hi⟩;have:l8[i]?=((range cs.length).map f)[i]?:=(by rw[←e6,getElem?_take_of_lt w4,Array.getElem?_toList])
    rw[this];simp[hi]) hne
  unfold Oper.wp;rw[BA (P:=P) ho (h.flat hs) hg nY,Oper.upon_value,hd];exact hK _ _ _ ⟨g,E,e3,e4,rfl⟩ s1 s2 s3
theorem PW {s:Operand} {t e:Nat} {cs:List D} (ho:o.op = .call {callee:=.builtin .append,args:=#[s,y],argTypes:=#[t,t]})
  (O:∀w,(underlying t).run P w = .ok (.slice e) w) (E:∀w,(sizeOf e).run P w = .ok sz w) (hs:aF x s = .v (.slice ad n cap)) (hn:n≤cap) (hy:aF x y = .list sz cs 0):bW P G x o .none (.v (.slice ad n cap)):=fun C a w _ h=>by
 refine⟨_,.v _,fun w' _=>?_⟩;have hr:=h.eval y;rw[hy] at hr;generalize hg:a.eval y=u at hr;refine BA (P:=P) ho (h.flat hs) hg ?_;have U:n+0≤cap:=hn;cases hr with
 | mB _ I kP=>cases I<;>cases ad<;>simp[Builtin.append_,O,E,Builtin.lenOf,Builtin.firstCells,storeCells,loadCells,loadCellsFrom,hn,Nat.not_lt.2 hn]
 | list _ _ _ b' o' kP f mi q1 q2 jW hL hc Z=>cases ad<;>simp[Builtin.append_,O,E,Builtin.lenOf,Builtin.firstCells,storeCells,loadCells,loadCellsFrom,hn,Nat.not_lt.2 hn]

end Go.Proofs.YtkgmonfgofobaaaGreatDoor.V
namespace Go.Proofs.YtkgmonfgofobaaaGreatDoor.V
open List
open Go.RowKit
variable {g t n:Nat} {E b:Bool} {l':List (Nat×D)} {S':List ah} {c:Code} {ds:List D} {fn:Func} {L:Nat→Prop} {r1:ResultVar}
def LQ(C:dK)(Q:Exit→St→Prop):Exit→Act→World→Prop:=fun e a w=>(∃y,bK C y a w∧Q e y)∨(e = .ret∧C.DH a w)
def CD(P:Program)(C:dK)(c:Code)(x:St)(Q:Exit→St→Prop):Prop:=∀a w,bK C x a w→c.wp P (LQ C Q) a w
def OD(P:Program)(C:dK)(ops:Array Oper)(l:List Oper)(x:St)(Q:Exit→St→Prop):Prop:=∀a w,bK C x a w→wpList P ops (LQ C Q) l a w
variable {P:Program} {C:dK} {Q:Exit→St→Prop} {x y:St} {ops:Array Oper} {l:List Oper} {o:Oper}
def cj(ops:Array Oper)(x:St)(o:Oper)(b:Bool):Prop:=∀C a w,bK C x a w→Region.wanted o (yielded ops a.tmps)=b
theorem sF(h:o.guard=none):cj ops x o true:=fun C a w _=>by simp[Region.wanted,h]
theorem RQ(h:o.guard=some (g,E))(hg:(ops[g]?).bind (·.dst)=some t)(ht:t<x.n)(hb:look t x.env = .v (.bool b)):cj ops x o (b==E):=fun C a w hs=>by
 have hv:=hs.env t ht;rw[hb] at hv;have hv:=hv.k8;have I:=hs.size;have:a.tmps[t]?=some (.bool b):=by
  rw[Array.getD_eq_getD_getElem?,Array.getElem?_eq_getElem w4] at hv;rw[Array.getElem?_eq_getElem w4];simpa using hv
 simp only[Region.wanted,h,yielded,hg,Option.bind_some,this];cases b<;>cases E<;>rfl
theorem fP{d:D}{r:List (Nat×D)}:look t ((t,d)::r)=d:=by rw[gh,if_pos rfl]
theorem gi{d d':D}{r:List (Nat×D)}(h:d=d'):look t ((t,d)::r)=d':=by rw[gh,if_pos rfl,h]
theorem fU{i:Nat}{d d':D}{r:List (Nat×D)}(h:Nat.beq i t=false)(k:look t r=d'):look t ((i,d)::r)=d':=by rw[look,h];exact k
theorem bP{v:Value}{x:St}:aF x (.const v) = .v v:=rfl
theorem tV{f:FuncId}{x:St}:aF x (.func f) = .eH (.func f) []:=rfl
theorem wT{x:St}:aF x (.global g) = .v (.pointer (some ⟨g,0,none⟩)):=rfl
theorem ud{d:D}{x:St}(h:Nat.blt t x.n=true)(k:look t x.env=d):aF x (.tmp t)=d:=by simp only[aF,h,k];rfl
theorem lk{l:List (Nat×D)}{d:D}(h:look t l=d:=by (repeat (first|exact fP|(apply fU;focus rfl)|exact look_nil));first|done|fail):look t l=d:=h
theorem ot{d:D}{x:St}(h:Nat.blt t x.n=true:=by exact rfl)(k:look t x.env=d:=by (repeat (first|exact fP|(apply fU;focus rfl)|exact look_nil));first|done|fail):aF x (.tmp t)=d:=ud h k
def nV(l:List (Nat×D)):List (Nat×D)→Prop
 | []=>True
 | (i,d)::r=>look i l=d∧nV l r
theorem nV.look{l:List (Nat×D)}:∀{l':List (Nat×D)},nV l l'→∀t,V.look t l'=V.look t l∨V.look t l' = .bX
 | [],_,t=>.inr rfl
 | (i,d)::r,h,t=>by
  rw[gh];by_cases e:i=t
  ·subst e;rw[if_pos rfl];exact .inl h.1.symm
  rw[if_neg e];exact h.2.look t
theorem Wk.kK{l:List (Nat×D)}{S:List ah}(h:nV l l'):Wk ⟨n,l,S⟩ ⟨n,l',S⟩:=fun C a w hs =>
 ⟨hs.defers,hs.size,fun t ht=>by
  rcases h.look t with e|e
  ·simp only[e];exact hs.env t ht
  simp only[e];exact .bX _,hs.own,hs.fr,hs.ex,hs.eV⟩
theorem Wk.er{x:St}(hn:x.n=n)(hS:x.S=S')(h:nV x.env l'):Wk x ⟨n,l',S'⟩:=by
 obtain⟨n0,l0,S0⟩:=x;simp only at hn hS h;subst hn hS;exact Wk.kK h
theorem Wk.asS{x:St}(hn:x.n=n)(hS:S'.Sublist x.S)(h:nV x.env l'):Wk x ⟨n,l',S'⟩:=by
 obtain⟨n0,l0,S0⟩:=x;simp only at hn hS h;subst hn;exact(Wk.drop n0 l0 S0 S' hS).trans (Wk.kK h)
theorem uf{ops:Array Oper}{x:St}{o:Oper}(h:o.guard=some (g,E))(hg:(ops[g]?).bind (·.dst)=some t)(ht:Nat.blt t x.n=true)(hb:look t x.env = .v (.bool b))(hw:b=E):cj ops x o true:=by
 have:=RQ h hg (Nat.le_of_ble_eq_true ht) hb;rw[hw] at this;simpa using this
theorem mP{ops:Array Oper}{x:St}{o:Oper}(h:o.guard=some (g,E))(hg:(ops[g]?).bind (·.dst)=some t)(ht:Nat.blt t x.n=true)(hb:look t x.env = .v (.bool b))(hw:b = !E):cj ops x o false:=by
 have:=RQ h hg (Nat.le_of_ble_eq_true ht) hb;rw[hw] at this;cases E<;>simpa using this
theorem Kr{ops:Array Oper}{x:St}{o:Oper}{b:Bool}(h:o.guard=some (g,E))(hg:(ops[g]?).bind (·.dst)=some t)(ht:Nat.blt t x.n=true)(hb:look t x.env = .v (.tuple #[])):cj ops x o false:=fun C a w hs=>by
 have hv:=hs.env t (Nat.le_of_ble_eq_true ht);rw[hb] at hv;have hv:=hv.k8;have I:=hs.size;have HX:t<x.n:=Nat.le_of_ble_eq_true ht;have:a.tmps[t]?=some (.tuple #[]):=by
  rw[Array.getD_eq_getD_getElem?,Array.getElem?_eq_getElem w4] at hv;rw[Array.getElem?_eq_getElem w4];simpa using hv
 simp only[Region.wanted,h,yielded,hg,Option.bind_some,this];cases E<;>rfl
theorem OD.nil(h:Q .normal x):OD P C ops [] x Q:=fun a w hs=>.inl ⟨x,hs,h⟩
theorem OD.gk{W:List Nat}{post:St→Prop}(hw:cj ops x o true)(h:ga P C.G x o W post)(k:∀y,post y→OD P C ops l y Q):OD P C ops (o::l) x Q:=fun a w hs=>by
 unfold wpList;rw[if_pos (hw C a w hs)];exact .inl (h C a w _ _ rfl hs fun y a' w' hp E _ _=>k y hp a' w' E)
theorem OD.still{kd:Rd}{d:D}(hw:cj ops x o true)(hd:o.dst=some t)(h:bW P C.G x o kd d)(k:OD P C ops l (x.put t d) Q):OD P C ops (o::l) x Q :=
 OD.gk hw (h.gk hd) fun y hy=>by subst hy;exact k
theorem OD.skip(hw:cj ops x o false)(hd:o.dst=some t)(k:OD P C ops l (x.put t (.v (.tuple #[]))) Q):OD P C ops (o::l) x Q:=fun a w hs=>by
 unfold wpList;rw[if_neg (by rw[hw C a w hs];simp),hd];exact k _ _ (hs.put (.v _))
theorem OD.wk(h:Wk x y)(k:OD P C ops l y Q):OD P C ops l x Q:=fun a w hs=>k a w (h C a w hs)
theorem CD.wk(h:Wk x y)(k:CD P C c y Q):CD P C c x Q:=fun a w hs=>k a w (h C a w hs)
theorem CD.mono{E:Exit→St→Prop}(h:CD P C c x Q)(k:∀e y,Q e y→E e y):CD P C c x E:=fun a w hs =>
 wp_mono (h a w hs) fun e a' w' h=>h.imp (fun ⟨y,h1,h2⟩=>⟨y,h1,k e y h2⟩) id
theorem CD.skip(h:Q .normal x):CD P C .skip x Q:=fun a w hs=>wp_skip (.inl ⟨x,hs,h⟩)
theorem CD.ret(h:Q .ret x):CD P C .ret x Q:=fun a w hs=>wp_ret (.inl ⟨x,hs,h⟩)
theorem CD.exit{id:Nat}(h:Q (.exit id) x):CD P C (.exit id) x Q:=fun a w hs=>wp_exit (.inl ⟨x,hs,h⟩)
def CV(P:Program)(C:dK)(c:Code)(Q:Exit→St→Prop):Exit→St→Prop
 | .normal,y=>CD P C c y Q
 | e,y=>Q e y
theorem CD.seq{c d:Code}(h:CD P C c x (CV P C d Q)):CD P C (.seq c d) x Q:=fun a w hs =>
 wp_seq (wp_mono (h a w hs) fun e a' w' h=>by
  rcases h with ⟨y,h1,h2⟩|⟨rfl,h⟩
  ·cases e<;>first|exact h2 a' w' h1|exact .inl ⟨y,h1,h2⟩
  exact .inr ⟨rfl,h⟩)
theorem CD.region{id:Nat}{l:List Oper}(h:OD P C l.toArray l x Q):CD P C (.region id l.toArray false) x Q:=fun a w hs=>wp_region_lit (h a w hs)
theorem CD.cond{c:Operand}{d e:Code}{b:Bool}(hc:aF x c = .v (.bool b))(ht:b=true→CD P C d x Q)(hf:b=false→CD P C e x Q):CD P C (.cond c d e) x Q:=fun a w hs =>
 wp_cond_split (hs.flat hc) (fun h=>ht h a w hs) (fun h=>hf h a w hs)
theorem CD.aib{c:Operand}{d e:Code}(hc:aF x c = .v (.bool b))(hb:b=true)(ht:CD P C d x Q):CD P C (.cond c d e) x Q:=fun a w hs =>
 wp_cond_true (by rw[hs.flat hc,hb]) (ht a w hs)
theorem CD.LW{c:Operand}{d e:Code}(hc:aF x c = .v (.bool b))(hb:b=false)(hf:CD P C e x Q):CD P C (.cond c d e) x Q:=fun a w hs =>
 wp_cond_false (by rw[hs.flat hc,hb]) (hf a w hs)
def N7(Inv:St→Prop)(Q:Exit→St→Prop):Exit→St→Prop
 | .normal,y=>∃z,Wk y z∧Inv z
 | e,y=>Q e y
theorem CD.cut{d:Code}(E:St→Prop)(h1:CD P C c x (N7 E Q))(h2:∀z,E z→CD P C d z Q):CD P C (.seq c d) x Q :=
 CD.seq (CD.mono h1 fun e y h=>by cases e<;>first|(obtain⟨z,hw,hz⟩:=h;exact CD.wk hw (h2 z hz))|exact h)
def B7(id:Nat)(Q:Exit→St→Prop):Exit→St→Prop
 | .exit tK,y=>bif Nat.beq tK id then Q .normal y else Q (.exit tK) y
 | e,y=>Q e y
theorem CD.block{id:Nat}{c:Code}(h:CD P C c x (B7 id Q)):CD P C (.block id c) x Q:=fun a w hs =>
 wp_block (wp_mono (h a w hs) fun e a' w' h=>by
  rcases h with ⟨y,h1,h2⟩|⟨rfl,h⟩
  case inr=>exact .inr ⟨rfl,h⟩
  cases e with
  | exit tK =>
   simp only[B7] at h2;simp only[Exit.inBlock];by_cases he:tK=id
   ·subst he;rw[if_pos rfl];simp at h2;exact .inl ⟨y,h1,h2⟩
   rw[if_neg he];have:Nat.beq tK id=false:=by
    cases h:Nat.beq tK id with
    | false=>rfl
    | true=>exact absurd (Nat.eq_of_beq_eq_true h) he
   rw[this] at h2;exact .inl ⟨y,h1,h2⟩
  | _=>exact .inl ⟨y,h1,h2⟩)
theorem least(p:Nat→Prop)(h:∃n,p n):∃n,p n∧∀m,p m→n≤m:=by
 obtain⟨n,hn⟩:=h;induction n using Nat.strongRecOn with
 | _ n ih =>
  by_cases hq:∃m,m<n∧p m
  ·obtain⟨m,hm,hp⟩:=hq;exact ih m hm hp
  exact⟨n,hn,fun m hm=>Nat.le_of_not_lt fun aa=>hq ⟨m,aa,hm⟩⟩
def Cz{ι:Type}(I:ι→St→Prop)(μ:ι→Nat)(i:ι)(Q:Exit→St→Prop):Exit→St→Prop
 | .normal,y=>∃j z,μ j < μ i∧Wk y z∧I j z
 | e,y=>Q e y
open Classical in
theorem CD.loop{ι:Type}{c:Code}(I:ι→St→Prop)(μ:ι→Nat)(i:ι)(h0:I i x)(round:∀i y,I i y→CD P C c y (Cz I μ i Q)):CD P C (.loop c) x Q:=fun a w hs=>by
 let p:Act→World→Nat→Prop:=fun a w n=>∃i y,μ i=n∧I i y∧bK C y a w
 let m:Act→World→Nat:=fun a w=>if h:∃n,p a w n then Classical.choose (least _ h) else 0
 refine wp_loop (fun a w=>∃n,p a w n) m ⟨_,i,x,rfl,h0,hs⟩ fun a w O=>?_;have hm:m a w=Classical.choose (least _ O):=dif_pos O;obtain⟨⟨i,y,h1,h2,h3⟩,_⟩:=Classical.choose_spec (least _ O);rw[←hm] at h1;refine wp_mono (round i y h2 a w h3) fun e a' w' h=>?_;rcases h with ⟨z,q1,q2⟩|⟨rfl,h⟩
 case inr=>exact .inr ⟨rfl,h⟩
 cases e with
 | normal =>
  obtain⟨j,z',r1,r2,Z⟩:=q2;have hp:p a' w' (μ j):=⟨j,z',rfl,Z,r2 C a' w' q1⟩
  have E:∃n,p a' w' n:=⟨_,hp⟩
  have U:m a' w'=Classical.choose (least _ E):=dif_pos E;refine⟨E,?_⟩;have:=(Classical.choose_spec (least _ E)).2 _ hp;rw[U];omega
 | _=>exact .inl ⟨z,q1,q2⟩
def Mw(tmps:Array Value):ResultVar→Sem Value
 | .tmp t=>pure (tmps.getD t undef)
 | .cell a t=>do loadVar t (←asAddr (tmps.getD a undef))
theorem IV(fn:Func)(tmps:Array Value):results fn tmps=(do let vs ←fn.results.mapM (Mw tmps);pure (if h:vs.size=1 then vs[0] else .tuple vs)):=rfl
def tL(P:Program)(y:St)(rv:ResultVar)(d:D):Prop :=
 ∀C a w,bK C y a w→∃v,cn w (live C.X y.S) d v∧(Mw a.tmps rv).run P w = .ok v w
theorem zy{d:D}(ht:t<y.n)(hd:look t y.env=d):tL P y (.tmp t) d:=fun C a w h=>⟨_,hd ▸ h.env t ht,rfl⟩
theorem sJ{c k b:Nat}{B:ah}(hc:c<y.n)(hd:look c y.env = .v (.pointer (some ⟨b,0,none⟩)))(hk:y.S[k]?=some B)(hb:B.b=b)(ha:∀w,(isAgg t).run P w = .ok true w)(hn:∀w,(sizeOf t).run P w = .ok n w)(dy:B.cs=ds)(hl:ds.length=n)(hne:isMap B.e=false:=by rfl):tL P y (.cell c t) (.agg ds):=fun C a w h=>by
 subst hb dy;have he:=h.env c hc;rw[hd] at he;obtain⟨_,cur,h1,h2,h3,h4⟩:=h.fN hk;rw[kI hne] at h1;refine⟨.agg ((range n).map fun j=>cur.getD j undef).toArray,.agg _ _ (by simp[hl]) (fun i q1 q2=>?_),?_⟩
 ·obtain⟨u,hu,hr⟩:=h4 i q1;simp only[getElem_map,getElem_range,Array.getD_eq_getD_getElem?,hu,Option.getD_some];exact hr
 simp only[Mw,he.k8,asAddr,Sem.run_bind,Sem.run_pure,Result.andThen_ok];have:=I5 (P:=P) (t:=t) (w:=w) (b:=B.b) (o':=0) (vs:=(range n).map fun j=>cur.getD j undef) ha hn bj (fun j hj=>by
  simp only[length_map,length_range] at hj;obtain⟨u,hu,_⟩:=h4 j w4;simp only[getElem_map,getElem_range,Array.getD_eq_getD_getElem?,hu,Option.getD_some,Nat.zero_add];exact ou h1 hu)
 simpa[Instr.loadAt,Instr.sureAddr] using this
def tM(P:Program)(fn:Func)(y:St)(r:D):Prop:=∀C a w,bK C y a w→∃v,cn w (live C.X y.S) r v∧(results fn a.tmps).run P w = .ok v w
theorem qG(hr:fn.results = #[]):tM P fn y (.dD []):=fun C a w h =>
 ⟨.tuple #[],.dD [] [] rfl (fun i h1 _=>by simp at h1),by unfold results;simp[hr]⟩
theorem TO{rv:ResultVar}{d:D}(hr:fn.results = #[rv])(h:tL P y rv d):tM P fn y d:=fun C a w hs=>by
 obtain⟨v,h1,h2⟩:=h C a w hs;refine⟨v,h1,?_⟩;rw[IV,hr];simp[h2]
theorem TP{w:World}{vs:List Value}(h:cG w L ds vs):cn w L (.dD ds) (.tuple vs.toArray):=.dD ds vs h.1 h.2
theorem cG.cons{w:World}{d:D}{v:Value}{vs:List Value}(h:cn w L d v)(hs:cG w L ds vs):cG w L (d::ds) (v::vs) :=
 ⟨by simp[hs.1],fun i h1 h2=>by
  cases i with
  | zero=>exact h
  | succ i=>exact hs.2 i _ _⟩
theorem cG.nil(w:World)(L:Nat→Prop):cG w L [] []:=⟨rfl,fun i h=>by simp at h⟩
theorem Ks{E:ResultVar}{d1 d2:D}(hr:fn.results = #[r1,E])(h1:tL P y r1 d1)(h2:tL P y E d2):tM P fn y (.dD [d1,d2]):=fun C a w hs=>by
 obtain⟨v1,a1,b1⟩:=h1 C a w hs;obtain⟨v2,a2,b2⟩:=h2 C a w hs;refine⟨_,TP (.cons a1 (.cons a2 (.nil _ _))),?_⟩;rw[IV,hr];simp[b1,b2]
theorem abu{E I:ResultVar}{d1 d2 d3:D}(hr:fn.results = #[r1,E,I])(h1:tL P y r1 d1)(h2:tL P y E d2)(h3:tL P y I d3):tM P fn y (.dD [d1,d2,d3]):=fun C a w hs=>by
 obtain⟨v1,a1,b1⟩:=h1 C a w hs;obtain⟨v2,a2,b2⟩:=h2 C a w hs;obtain⟨v3,a3,b3⟩:=h3 C a w hs;refine⟨_,TP (.cons a1 (.cons a2 (.cons a3 (.nil _ _)))),?_⟩;rw[IV,hr];simp[b1,b2,b3]
def Body(P:Program)(fn:Func)(post:D→List ah→Prop)(e:Exit)(y:St):Prop :=
 (e = .normal∨e = .ret)∧∃r S',S'.Sublist y.S∧tM P fn y r∧post r S'
def sU:Nat→List D→List (Nat×D)
 | _,[]=>[]
 | i,d::r=>(i,d)::sU (i+1) r
theorem EZ:∀(ds:List D) (i t:Nat),look t (sU i ds)=if i≤t then ds.getD (t-i) .bX else .bX
 | [],i,t=>by simp[sU,look]
 | d::r,i,t=>by
  rw[sU,gh,EZ r (i+1) t];by_cases h:i=t
  ·subst h;simp
  rw[if_neg h];by_cases h2:i≤t
  ·rw[if_pos h2,if_pos w4,show t-i=(t-(i+1))+1 from by omega];simp
  rw[if_neg h2,if_neg w4]
theorem VC.body {G:List (Nat×List Value)} {f:FuncId} {fn:Func} {c:Code} {n:Nat} {args:List D} {S:List ah} {post:D→List ah→Prop} (hf:P.funcs[f]?=some fn) (hb:fn.body=some c) (hn:fn.ntmps=n) (hl:args.length≤n)
  (h:∀X w0 S0,CD P ⟨X,w0,S0,G,[],fun _ _=>False⟩ c ⟨n,sU 0 args,S⟩ (Body P fn post)):VC P G f args S post:=fun X w vs hp=>by
 have Z:vs.length=args.length:=hp.args.1;let C:dK:=⟨X,w,ax S,G,[],fun _ _=>False⟩
 have I:bK C ⟨n,sU 0 args,S⟩ {tmps:=vs.toArray++Array.replicate (fn.ntmps-vs.toArray.size) undef,defers:=[]} w:=by
  refine⟨rfl,by simp[hn];omega,fun t ht=>?_,hp.own,Fr.refl _ _,hp.ex,hp.eV⟩;simp only[EZ,Nat.zero_le,if_true,Nat.sub_zero];by_cases aa:t<args.length
  ·have e1:args.getD t .bX=args[t]:=(by simp[getD,aa])
   have e2:(vs.toArray++Array.replicate (fn.ntmps-vs.toArray.size) undef).getD t undef=vs[t]'w4:=by
    rw[Array.getD_eq_getD_getElem?,Array.getElem?_append_left iB];simp[show t<vs.length by omega]
   rw[e1,e2];exact hp.args.2 t aa w4
  have e1:args.getD t .bX = .bX:=(by simp[getD,getElem?_eq_none (show args.length≤t by omega)])
  rw[e1];exact .bX _
 refine calls_of_wp hf hb (wp_mono (h _ _ _ _ _ I) fun e a w' h=>?_);rcases h with ⟨y,h1,h2,r,S',h3,h4,h5⟩|⟨_,h⟩
 case inr=>exact h.elim
 obtain⟨v,q1,q2⟩:=h4 C a w' h1;have E:(ax S').Sublist (ax y.S):=Sublist.map _ h3;have key:a.defers=[]∧∃v,(results fn a.tmps).run P w' = .ok v w'∧∃U r S',Ending.returned v = .returned U∧post r S'∧Own w' (live X S') S'∧cn w' (live X S') r U∧Fr w (ax S) w' (ax S') :=
  ⟨h1.defers,v,q2,v,r,S',rfl,h5,h1.own.sub h3,q1.mono fun b _ hn=>⟨rfl,fun hl=>hn (hl.imp id fun q=>E.subset q)⟩,
   ⟨h1.fr.os,h1.fr.tape,h1.fr.output,h1.fr.size,fun b O hn=>⟨(h1.fr.block b O hn).1,fun q=>(h1.fr.block b O hn).2 (E.subset q)⟩⟩⟩
 rcases h2 with rfl|rfl<;>exact key

end Go.Proofs.YtkgmonfgofobaaaGreatDoor.V
namespace Go.Proofs.YtkgmonfgofobaaaGreatDoor.V
open List
open Go.RowKit
variable {fuel i t:Nat} {ld:Array Bool}
def lf(w1:World)(S1 T:List Nat)(w:World):Prop:=(∀b,b<w1.heap.size→b∉S1→w.heap[b]?=w1.heap[b]?)∧∀b∈T,w.heap[b]?=w1.heap[b]?
def AD(P:Program)(C:dK)(ops:Array Oper)(S1 T:List Nat)(fuel:Nat)(ld:Array Bool)(x:St)(Q:Exit→St→Prop):Prop :=
 ∀w1 a w,bK C x a w→(∀b∈T,b∈S1)→(∀b∈S1,b<w1.heap.size)→Fr w1 S1 w (ax x.S)→lf w1 S1 T w→wpAnyH P .any ops (LQ C Q) (lf w1 S1 T) fuel ld a w
def dZ(P:Program)(C:dK)(ops:Array Oper)(S1 T:List Nat)(fuel:Nat)(ld:Array Bool)(x:St)(Q:Exit→St→Prop):Prop :=
 ∀a w,bK C x a w→ax x.S=S1→(∀b∈T,b∈S1)→wpAnyH P .any ops (LQ C Q) (lf w S1 T) fuel ld a w
def NP(Q:Exit→St→Prop):Prop:=∀c y t,Q (.panic c) y→Q (.panic c) (y.put t .bX)
variable {P:Program} {C:dK} {Q:Exit→St→Prop} {x y:St} {ops:Array Oper} {l:List Oper} {o:Oper} {S1 T:List Nat}
theorem NP.body{fn:Func}{post:D→List ah→Prop}:NP (Body P fn post):=fun E y t hq=>by rcases hq.1 with h|h<;>cases h
def Tl(P:Program)(C:dK)(ops:Array Oper)(l:List Oper)(Q:Exit→St→Prop):Exit→St→Prop
 | .normal,y=>OD P C ops l y Q
 | e,y=>Q e y
theorem lf.refl(w1:World)(S1 T:List Nat):lf w1 S1 T w1:=⟨fun _ _ _=>rfl,fun _ _=>rfl⟩
theorem dZ.later(hS:ax x.S=S1)(h:AD P C ops S1 T fuel ld x Q):dZ P C ops S1 T fuel ld x Q:=fun a w hs _ hT =>
 h w a w hs hT (fun b hb=>by
  rw[←hS] at hb;obtain⟨B,hB,rfl⟩:=mem_map.1 hb;exact(hs.own.at_ B hB).1) (hS ▸ Fr.refl _ _) (lf.refl _ _ _)
def Safe(x:St)(T:List Nat):Rd→Prop
 | .none=>True
 | .kj=>True
 | .fN k=>∃B,x.S[k]?=some B∧B.b∈T
theorem zZ(h:NP Q)(d:Option Nat)(v:Value):∀c a w,LQ C Q (.panic c) (a.put d v) w→LQ C Q (.panic c) a w:=fun c a w hq=>by
 rcases hq with ⟨y,h1,h2⟩|⟨h2,_⟩
 ·cases d with
  | none=>exact .inl ⟨y,h1,h2⟩
  | some t =>
   refine .inl ⟨y.put t .bX,⟨h1.defers,by have E:=h1.size;simp only[Act.put,Array.size_setIfInBounds] at E;exact E,fun q hq=>?_,h1.own,h1.fr,h1.ex,h1.eV⟩,h c y t h2⟩;have h3:=h1.env q hq;simp only[St.put,gh];by_cases e:t=q
   ·rw[if_pos e];exact .bX _
   rw[if_neg e];have:(a.put (some t) v).tmps.getD q undef=a.tmps.getD q undef:=(by simp[Act.put,Array.getD_eq_getD_getElem?,Array.getElem?_setIfInBounds,e])
   rw[this] at h3;exact h3
 cases h2
theorem dZ.take {k:Rd} {d:D} (hi:ops[i]?=some o) (hs:Region.noSelect ops=true) (hf:Region.free .any ops ld i=true) (hr:(Region.ready .any ops ld).contains i=true) (hp:NP Q)
  (hw:cj ops x o true) (hd:o.dst=some t) (h:bW P C.G x o k d) (hk:Safe x T k) (K:dZ P C ops S1 T fuel (ld.setIfInBounds i true) (x.put t d) Q):dZ P C ops S1 T (fuel+1) ld x Q:=fun a w E hS hT=>by
 obtain⟨v,h1,h2⟩:=h C a w rfl E;refine wpAnyH_take hi hs hf hr (zZ hp _ v) (.inl ⟨hw C a w E,fun w' I=>h2 w' ?_⟩) (lf.refl _ _ _) ?_
 ·cases k with
  | none=>trivial
  | kj=>exact fun b hb hn=>I.1 b hb (fun hm=>hn (.inr (hS ▸ hm)))
  | fN k =>
   obtain⟨B,hB,hm⟩:=hk;intro B' O;rw[hB] at O;obtain rfl:=Option.some.inj O;exact I.2 _ hm
 rw[hd];exact K _ _ (E.put h1) hS hT
theorem dZ.JH (hi:ops[i]?=some o) (hs:Region.noSelect ops=true) (hf:Region.free .any ops ld i=true) (hr:(Region.ready .any ops ld).contains i=true) (hp:NP Q)
  (hw:cj ops x o false) (hd:o.dst=some t) (K:dZ P C ops S1 T fuel (ld.setIfInBounds i true) (x.put t (.v (.tuple #[]))) Q):dZ P C ops S1 T (fuel+1) ld x Q:=fun a w E hS hT=>by
 refine wpAnyH_take (v:=undef) hi hs hf hr (zZ hp _ _) (.inr ⟨hw C a w E,rfl⟩) (lf.refl _ _ _) ?_;rw[hd];exact K _ _ (E.put (.v _)) hS hT
theorem AD.take {k:Rd} {d:D} (hi:ops[i]?=some o) (hs:Region.noSelect ops=true) (hf:Region.free .any ops ld i=true) (hr:(Region.ready .any ops ld).contains i=true) (hp:NP Q)
  (hw:cj ops x o true) (hd:o.dst=some t) (h:bW P C.G x o k d) (hk:Safe x T k) (nk:k≠.kj) (K:AD P C ops S1 T fuel (ld.setIfInBounds i true) (x.put t d) Q):AD P C ops S1 T (fuel+1) ld x Q:=fun w1 a w E hT aa O fS=>by
 obtain⟨v,h1,h2⟩:=h C a w rfl E;refine wpAnyH_take hi hs hf hr (zZ hp _ v) (.inl ⟨hw C a w E,fun w' U=>h2 w' ?_⟩) fS ?_
 ·cases k with
  | none=>trivial
  | kj=>exact absurd rfl nk
  | fN k =>
   obtain⟨B,hB,hm⟩:=hk;intro B' I;rw[hB] at I;obtain rfl:=Option.some.inj I;exact(U.2 _ hm).trans (fS.2 _ hm).symm
 rw[hd];exact K _ _ _ (E.put h1) hT aa O fS
theorem AD.JH (hi:ops[i]?=some o) (hs:Region.noSelect ops=true) (hf:Region.free .any ops ld i=true) (hr:(Region.ready .any ops ld).contains i=true) (hp:NP Q)
  (hw:cj ops x o false) (hd:o.dst=some t) (K:AD P C ops S1 T fuel (ld.setIfInBounds i true) (x.put t (.v (.tuple #[]))) Q):AD P C ops S1 T (fuel+1) ld x Q:=fun w1 a w E hT aa I fS=>by
 refine wpAnyH_take (v:=undef) hi hs hf hr (zZ hp _ _) (.inr ⟨hw C a w E,rfl⟩) fS ?_;rw[hd];exact K _ _ _ (E.put (.v _)) hT aa I fS
def bD(P:Program)(C:dK)(ops:Array Oper)(S1 T:List Nat)(fuel:Nat)(ld:Array Bool)(x:St)(Q:Exit→St→Prop)(i:Nat):Prop :=
 ∀w1 a w,bK C x a w→(∀b∈T,b∈S1)→(∀b∈S1,b<w1.heap.size)→Fr w1 S1 w (ax x.S)→lf w1 S1 T w →
  wpOp P ops (LQ C Q) i (fun a' w'=>lf w1 S1 T w'∧wpAnyH P .any ops (LQ C Q) (lf w1 S1 T) fuel (ld.setIfInBounds i true) a' w') a w
theorem AD.all{I:List Nat}(hr:Region.ready .any ops ld=I)(hne:I≠[])(h:∀i∈I,bD P C ops S1 T fuel ld x Q i):AD P C ops S1 T (fuel+1) ld x Q:=fun w1 a w E hT aa O fS =>
 wpAnyH_all hr hne fun i hi=>h i hi w1 a w E hT aa O fS
theorem AD.one(hr:Region.ready .any ops ld=[i])(h:bD P C ops S1 T fuel ld x Q i):AD P C ops S1 T (fuel+1) ld x Q :=
 AD.all hr bj fun j hj=>by
  have:j=i:=(by simpa using hj)
  subst this;exact h
theorem AD.two{j:Nat}(hr:Region.ready .any ops ld=[i,j])(h:bD P C ops S1 T fuel ld x Q i)(h':bD P C ops S1 T fuel ld x Q j):AD P C ops S1 T (fuel+1) ld x Q :=
 AD.all hr bj fun k hk=>by
  simp only[mem_cons,not_mem_nil,or_false] at hk;rcases hk with rfl|rfl
  ·exact h
  exact h'
theorem AD.done(hr:Region.ready .any ops ld=[])(h:Q .normal x):AD P C ops S1 T fuel ld x Q:=fun w1 a w E hT aa I fS=>wpAnyH_done hr (.inl ⟨x,E,h⟩) _
theorem bD.gk {W:List Nat} {post:St→Prop} (hi:ops[i]?=some o) (hw:cj ops x o true) (h:ga P C.G x o W post) (hW:∀C a w,bK C x a w→∀b∈T,b∉W) (hWx:∀b∈W,b∈ax x.S)
  (k:∀y,post y→AD P C ops S1 T fuel (ld.setIfInBounds i true) y Q):bD P C ops S1 T fuel ld x Q i:=fun w1 a w I hT aa E fS=>by
 unfold wpOp;simp only[hi,hw C a w I,if_true];refine .inl (h C a w _ _ rfl I fun y a' w' hp Z hc hf=>?_);have O:Fr w1 S1 w' (ax y.S):=⟨hf.os.trans E.os,hf.tape.trans E.tape,hf.output.trans E.output,Nat.le_trans E.size hf.size,fun b hb hn=>by
  obtain⟨q1,q2⟩:=E.block b hb hn;obtain⟨q3,q4⟩:=hf.block b (Nat.lt_of_lt_of_le hb E.size) q2;exact⟨q3.trans q1,q4⟩⟩
 have U:lf w1 S1 T w':=⟨fun b hb hn=>(O.block b hb hn).1,fun b hb=>by
  have jd:=Nat.lt_of_lt_of_le (aa b (hT b hb)) E.size;exact(hc.2 b jd (hW C a w I b hb)).trans (fS.2 b hb)⟩
 exact⟨U,k y hp w1 a' w' Z hT aa O U⟩
theorem bD.still{kd:Rd}{d:D}(hi:ops[i]?=some o)(hw:cj ops x o true)(hd:o.dst=some t)(h:bW P C.G x o kd d)(k:AD P C ops S1 T fuel (ld.setIfInBounds i true) (x.put t d) Q):bD P C ops S1 T fuel ld x Q i :=
 bD.gk hi hw (h.gk hd) (fun _ _ _ _ b _ hb=>by simp at hb) (fun b hb=>by simp at hb) fun y hy=>by subst hy;exact k
theorem bD.skip(hi:ops[i]?=some o)(hw:cj ops x o false)(hd:o.dst=some t)(k:AD P C ops S1 T fuel (ld.setIfInBounds i true) (x.put t (.v (.tuple #[]))) Q):bD P C ops S1 T fuel ld x Q i:=fun w1 a w E hT aa I fS=>by
 unfold wpOp;simp only[hi,hw C a w E,hd];exact⟨fS,k w1 _ w (E.put (.v _)) hT aa I fS⟩
theorem AD.wk(h:Wk x y)(hb:ax y.S=ax x.S)(k:AD P C ops S1 T fuel ld y Q):AD P C ops S1 T fuel ld x Q:=fun w1 a w E hT aa I fS=>k w1 a w (h C a w E) hT aa (hb ▸ I) fS
theorem AD.GA(h:Wk x y)(hb:∀b∈ax y.S,b∈ax x.S)(k:AD P C ops S1 T fuel ld y Q):AD P C ops S1 T fuel ld x Q:=fun w1 a w I hT aa E fS =>
 k w1 a w (h C a w I) hT aa ⟨E.os,E.tape,E.output,E.size,fun b h1 h2=>⟨(E.block b h1 h2).1,fun h3=>(E.block b h1 h2).2 (hb b h3)⟩⟩ fS
theorem CD.draw{id:Nat}{l:List Oper}(T:List Nat)(hm:P.follows .mixedOrders=true)(hT:∀b∈T,b∈ax x.S)(h:dZ P C l.toArray (ax x.S) T l.toArray.size (Array.replicate l.toArray.size false) x Q):CD P C (.region id l.toArray true) x Q:=fun a w hs =>
 wp_region_held (S:=lf {w with drawn:=w.drawn+1} (ax x.S) T) hm (h a _ ⟨hs.defers,hs.size,fun t ht=>(hs.env t ht).mono fun b _ hn=>⟨rfl,hn⟩,⟨fun B E=>by
  obtain⟨r0,cur,r1,r2,I,O⟩:=hs.own.at_ B E;exact⟨r0,cur,r1,r2,I,fun i hi=>by
   obtain⟨u,hu,hq⟩:=O i hi;exact⟨u,hu,hq.mono fun b _ hn=>⟨rfl,hn⟩⟩⟩,hs.own.apart⟩,⟨hs.fr.os,hs.fr.tape,hs.fr.output,hs.fr.size,hs.fr.block⟩,hs.ex,hs.eV⟩ rfl hT)

end Go.Proofs.YtkgmonfgofobaaaGreatDoor.V

namespace Go.Proofs.YtkgmonfgofobaaaGreatDoor.V
open List
open Go.RowKit
variable {P:Program}

variable {t:TypeId} {k:IntKind} {a b:Int} {us A8:List Value} {y:Operand}
theorem Kt{op:BinOp}{r:Int}(h:(op = .add∧k.wrap (a+b)=r)∨(op = .sub∧k.wrap (a-b)=r)∨(op = .mul∧k.wrap (a*b)=r)):kX P op t (.int k a) (.int k b) (.int k r):=fun y z w=>by
 rcases h with ⟨rfl,h⟩|⟨rfl,h⟩|⟨rfl,h⟩<;>simp[eqGuard,binOp,Op.intArith,h]

theorem kr{r:Int}(h:k.wrap (a+b)=r):kX P .add t (.int k a) (.int k b) (.int k r):=Kt (.inl ⟨rfl,h⟩)
theorem iy{r:Int}(h:k.wrap (a-b)=r):kX P .sub t (.int k a) (.int k b) (.int k r):=Kt (.inr (.inl ⟨rfl,h⟩))
theorem Ku{r:Int}(h:k.wrap (a*b)=r):kX P .mul t (.int k a) (.int k b) (.int k r):=Kt (.inr (.inr ⟨rfl,h⟩))
theorem TQ:kX P .lss t (.int k a) (.int k b) (.bool (decide (a<b))):=fun y z w=>by simp[eqGuard,binOp,Op.intCmp]
theorem TR:kX P .leq t (.int k a) (.int k b) (.bool (decide (a≤b))):=fun y z w=>by simp[eqGuard,binOp,Op.intCmp]
theorem TS:kX P .gtr t (.int k a) (.int k b) (.bool (decide (a>b))):=fun y z w=>by simp[eqGuard,binOp,Op.intCmp]
theorem TT:kX P .geq t (.int k a) (.int k b) (.bool (decide (a≥b))):=fun y z w=>by simp[eqGuard,binOp,Op.intCmp]
theorem TU:kX P .eql t (.int k a) (.int k b) (.bool (a==b)):=fun y z w=>by simp[eqGuard,binOp,Op.intCmp]
theorem TV:kX P .neq t (.int k a) (.int k b) (.bool (a != b)):=fun y z w=>by simp[eqGuard,binOp,Op.intCmp]
theorem ae7{r:Int}(hb:b≠0)(h:k.wrap (a.tdiv b)=r):kX P .quo t (.int k a) (.int k b) (.int k r):=fun y z w=>by simp[eqGuard,binOp,Op.intDiv,hb,h]
theorem Kv(hb:b≠0):kX P .rem t (.int k a) (.int k b) (.int k (a.tmod b)):=fun y z w=>by simp[eqGuard,binOp,Op.intDiv,hb]

theorem RR{a b:ByteArray}:kX P .eql t (.string a) (.string b) (.bool (a.toList==b.toList)):=fun y z w=>by simp[eqGuard,binOp,Op.stringOp]
theorem RS{a b:ByteArray}:kX P .neq t (.string a) (.string b) (.bool (!(a.toList==b.toList))):=fun y z w=>by simp[eqGuard,binOp,Op.stringOp]
theorem Kw{a b:ByteArray}(h:a.size+b.size≤9223372036854775807):kX P .add t (.string a) (.string b) (.string (a++b)):=fun y z w=>by
 have:¬(((a.size+b.size:Nat):Int)>IntKind.i64.max):=by
  have:IntKind.i64.max=9223372036854775807:=rfl;omega
 simp only[eqGuard,binOp,Op.stringOp,Sem.run_bind];simp only[this,if_false];simp

theorem Fu{a b:Bool}(E:P.underlying t=some .bool):kX P .eql t (.bool a) (.bool b) (.bool (a==b)):=fun y z w=>by
 have:binOp .eql t (.bool a) (.bool b)=(do pure (.bool (←Op.equal t (.bool a) (.bool b)))):=rfl;simp only[eqGuard,this,Sem.run_bind];simp[run_equal_bool w t a b E]
theorem JI{a b:Bool}(E:P.underlying t=some .bool):kX P .neq t (.bool a) (.bool b) (.bool (!(a==b))):=fun y z w=>by
 have:binOp .neq t (.bool a) (.bool b)=(do pure (.bool (!(←Op.equal t (.bool a) (.bool b))))):=rfl;simp only[eqGuard,this,Sem.run_bind];simp[run_equal_bool w t a b E]

theorem cn.GB{w:World}{L:Nat→Prop}{v:Value}(h:cn w L (.agg (us.map .v)) v):v = .agg us.toArray:=by
 cases h with
 | agg _ vs hl hr =>
  congr 1;congr 1;refine ext_getElem uK fun i h1 h2=>?_;have:=hr i (by simpa using h2) h1;simp only[getElem_map] at this;exact this.k8

section
variable {G:List (Nat×List Value)} {x:St} {o:Oper}

theorem abv {t':TypeId} {z:Operand} {r:Bool} (ho:o.op = .binOp .eql t y z t') (hy:aF x y = .agg (us.map .v)) (hz:aF x z = .agg (A8.map .v)) (hg:P.eqGuardType P.depth t=false)
  (hE:∀w,(Op.equalIn 10000 t (.agg us.toArray) (.agg A8.toArray)).run P w = .ok r w):bW P G x o .none (.v (.bool r)):=fun C a w _ h=>by
 have h1:=h.eval y;have h2:=h.eval z;rw[hy] at h1;rw[hz] at h2;refine⟨_,.v _,fun w' _=>?_⟩;unfold execOp;simp only[ho,h1.GB,h2.GB,Sem.run_bind,run_eqGuard_agg _ _ _ _ _ _ _ hg,Result.andThen_ok,run_eql_struct,hE,Sem.run_pure]

theorem QF {t':TypeId} {z:Operand} {r:Bool} (ho:o.op = .binOp .neq t y z t') (hy:aF x y = .agg (us.map .v)) (hz:aF x z = .agg (A8.map .v)) (hg:P.eqGuardType P.depth t=false)
  (hE:∀w,(Op.equalIn 10000 t (.agg us.toArray) (.agg A8.toArray)).run P w = .ok r w):bW P G x o .none (.v (.bool !r)):=fun C a w _ h=>by
 have h1:=h.eval y;have h2:=h.eval z;rw[hy] at h1;rw[hz] at h2;refine⟨_,.v _,fun w' _=>?_⟩;unfold execOp;simp only[ho,h1.GB,h2.GB,Sem.run_bind,run_eqGuard_agg _ _ _ _ _ _ _ hg,Result.andThen_ok,run_neq_struct,hE,Sem.run_pure]

def vF(b:UInt8):D:=.v (.int .u8 (b.toNat:Int))

theorem ZQ{s e:TypeId}{bs:List UInt8}{n:Nat}(ho:o.op = .convert s t y)(hy:aF x y = .list 1 (bs.map vF) n)(hs:P.underlying s=some (.slice e))(he:P.underlying e=some (.int .u8))(ht:P.underlying t=some .string) :
  bW P G x o .kj (.v (.string ⟨bs.toArray⟩)):=fun C a w _ h=>by
 have hr:=h.eval y;rw[hy] at hr;generalize hg:a.eval y=u at hr;generalize dy:bs.map vF=cs at hr;cases hr with
 | mB _ ad cap =>
  have:bs=[]:=(by simpa using dy)
  subst this;refine⟨_,.v _,fun w' _=>?_⟩;unfold execOp;simp only[ho,hg,Sem.run_bind,run_convert_bytes_string w' s t e ad 0 cap hs he ht];cases ad<;>simp[Conv.bytesToString,loadCells,loadCellsFrom]<;>rfl
 | list _ _ _ b I cap g hl q1 q2 hb hL hc O =>
  subst dy;simp only[length_map,Nat.mul_one] at hl hc;refine⟨_,.v _,fun w' hw=>?_⟩;unfold execOp;have E:=run_convert_bytes_back (P:=P) w' s t e ⟨b,I,none⟩ cap bs hs he ht (fun j hj=>by
   rw[Addr.add_mid];have U:=World.cell?_of_block (w:=w) (a:=⟨b,I+j,none⟩) (hw b hb hL);rw[U,hc j hj];have:=O j (by simpa using hj);simp only[getElem_map,vF] at this;rw[this.k8])
  rw[hl] at E;simp only[ho,hg,Sem.run_bind,E,Result.andThen_ok,Sem.run_pure]
end

theorem agN{b:Bool}:∀w,(Op.unary .not (.bool b)).run P w = .ok (.bool !b) w:=fun w=>rfl
theorem Lh{r:Int}(h:k.wrap (0-a)=r):∀w,(Op.unary .neg (.int k a)).run P w = .ok (.int k r) w:=fun w=>by
 subst h;rfl

theorem o8{s:TypeId}{k':IntKind}{r:Int}{d:TypeDesc}(hs:∀w,(underlying s).run P w = .ok d w)(ht:∀w,(underlying t).run P w = .ok (.int k') w)(h:k'.wrap a=r):∀w,(convert s t (.int k a)).run P w = .ok (.int k' r) w:=fun w=>by
 subst h;simp[convert,hs,ht,Conv.intToInt]

theorem wrap_i64{x:Int}(h1:-9223372036854775808≤x)(h2:x≤9223372036854775807):IntKind.i64.wrap x=x:=IntWalk.i64_in _ w4

theorem agO{ts:Array TypeId}{E:TypeId}:∀cs w,(builtin .min ts E cs #[.int k a,.int k b]).run P w = .ok (.value (.int k (if b<a then b else a))) w:=fun cs w=>by
 simp[builtin,Builtin.min_,Builtin.min2]
theorem nL:(∀{p:Prop} [Decidable p],(decide p=true)=p)∧(∀{p:Prop} [Decidable p],(decide p=false)↔¬p)∧(∀{a b:Int},(a==b)=true↔a=b)∧(∀{a b:Int},(a != b)=true↔a≠b)∧(∀{a b:Bool},(a==b)=true↔a=b)∧(∀{a b:Bool},(a != b)=true↔a≠b)
  ∧ (∀{b:Bool},((!b)=true)=(b=false))∧(∀{b:Bool},((!b)=false)=(b=true))∧(∀{b:Bool},(¬b=true)=(b=false))∧(∀{b:Bool},(¬b=false)=(b=true))∧(∀{a b:Int},(a==b)=false↔¬a=b)∧(∀{a b:Int},(a != b)=false↔a=b)∧(∀{a b:Bool},(a==b)=false↔¬a=b)∧(∀{a b:Bool},(a != b)=false↔a=b)
  ∧ (∀{a b:Bool},((a&&b)=true)=(a=true∧b=true))∧(∀{a b:Bool},((a||b)=true)=(a=true∨b=true))∧(∀{b:Bool},(!!b)=b)∧(∀{a b:Bool},(a&&b)=false↔a=false∨b=false)∧(∀{a b:Bool},(a||b)=false↔a=false∧b=false)∧(∀{a b:Int},(¬a<b)↔b≤a)∧(∀{a b:Int},(¬a≤b)↔b<a):=by
 refine⟨fun {p} _=>by simp,fun {p} _=>by simp,by simp,by simp,by simp,by simp,by simp,by simp,by simp,by simp,by simp,by simp,by simp,by simp,by simp,by simp,by simp,by simp,by simp,by simp,by simp⟩
end Go.Proofs.YtkgmonfgofobaaaGreatDoor.V

namespace Go.Proofs.YtkgmonfgofobaaaGreatDoor.V
open List
open Go.RowKit
variable {P:Program} {C:dK} {G:List (Nat×List Value)} {Q:Exit→St→Prop} {x y:St} {ops:Array Oper} {l:List Oper} {o:Oper}
variable {t e:TypeId} {ps:List (Nat×Operand)} {pl:List (Nat×D)} {ds:List D} {sz i:Nat} {fo:Operand} {de:Array Operand} {ts:Array TypeId} {α:Type} {lo hi:Option Operand}
theorem ac3{z:Operand}{d:D}(ho:o.op = .move z)(hd:aF x z=d):bW P G x o .none d:=hd ▸ aaB ho
theorem ac4{z:Operand}{d:D}(ho:o.op = .assign z)(hd:aF x z=d):bW P G x o .none d:=hd ▸ ZZ ho
theorem aah{c y z:Operand}{t:Bool}{d:D}(ho:o.op = .pick c y z)(hc:aF x c = .v (.bool t))(h:t=true)(hd:aF x y=d):bW P G x o .none d:=by
 have:=Qg (P:=P) (G:=G) ho hc;rw[if_pos h,hd] at this;exact this
theorem aai{c y z:Operand}{t:Bool}{d:D}(ho:o.op = .pick c y z)(hc:aF x c = .v (.bool t))(h:t=false)(hd:aF x z=d):bW P G x o .none d:=by
 have:=Qg (P:=P) (G:=G) ho hc;rw[if_neg (by rw[h];simp),hd] at this;exact this
def nc(x:St):List Operand→List D→Prop
 | [],[]=>True
 | o::r,d::r'=>aF x o=d∧nc x r r'
 | _,_=>False
theorem nc.eq:∀{os:List Operand} {ds:List D},nc x os ds→os.map (aF x)=ds
 | [],[],_=>rfl
 | o::r,d::r',h=>by rw[map_cons,h.1,nc.eq h.2]
 | [],_::_,h=>h.elim
 | _::_,[],h=>h.elim
def jL(x:St):List (Nat×Operand)→List (Nat×D)→Prop
 | [],[]=>True
 | p::r,q::r'=>p.1=q.1∧aF x p.2=q.2∧jL x r r'
 | _,_=>False
theorem jL.eq:∀{ps:List (Nat×Operand)} {ds:List (Nat×D)},jL x ps ds→lW x ps.toArray=ds
 | [],[],_=>rfl
 | p::r,(i,d)::r',h=>by
  have:=jL.eq h.2.2;simp only[lW,map_cons] at this ⊢;rw[this,h.1,h.2.1]
 | [],_::_,h=>h.elim
 | _::_,[],h=>h.elim
def kY:D→Bool
 | .bX=>false
 | _=>true
theorem By{ps:List (Nat×D)}(h:ps.all (fun p=>kY p.2)=true):∀p∈ps,p.2≠.bX:=fun p hp he=>by
 have:=all_eq_true.1 h p hp;rw[he] at this;cases this
theorem oY {E:Array Field} {places:Array (Nat×Nat)} {z:Value} (ho:o.op = .build t ps.toArray) (hz:∀w,(zeroValue t).run P w = .ok z w)
  (I:∀w,(underlying t).run P w = .ok (.struct E) w) (hp:∀w,(E.mapM fun f=>do pure (f.offset,←sizeOf f.type):Sem (Array (Nat×Nat))).run P w = .ok places w)
  (gL:jL x ps pl) (hj:pl.all (fun p=>kY p.2)=true) (hd:mz (places[·]?) (z.cells.toList.map .v) pl=some ds):bW P G x o .none (.agg ds):=by
 refine aag ho hz I hp ?_ ?_
 ·rw[gL.eq];exact By hj
 rw[gL.eq];exact hd
theorem E0 {n:Nat} {z:Value} (ho:o.op = .build t ps.toArray) (hz:∀w,(zeroValue t).run P w = .ok z w)
  (E:∀w,(underlying t).run P w = .ok (.array n e) w) (hs:∀w,(sizeOf e).run P w = .ok sz w)
  (gL:jL x ps pl) (hj:pl.all (fun p=>kY p.2)=true) (hd:mz (fun i=>some (i*sz,sz)) (z.cells.toList.map .v) pl=some ds):bW P G x o .none (.agg ds):=by
 refine Z3 ho hz E hs ?_ ?_
 ·rw[gL.eq];exact By hj
 rw[gL.eq];exact hd
def cq(k:Nat):List D→List (Nat×D)
 | []=>[]
 | d::r=>(k,d)::cq (k+1) r
theorem QG:∀(ds pre post:List D),ds.length≤post.length→dm (pre++post) pre.length ds=(pre++ds)++post.drop ds.length
 | [],pre,post,_=>by simp[dm]
 | d::ds,pre,[],h=>by simp at h
 | d::ds,pre,p::post,h=>by
  rw[dm,show(pre++p::post).set pre.length d=(pre++[d])++post by simp,show pre.length+1=(pre++[d]).length by simp,QG ds (pre++[d]) post pC];simp
theorem TW{sz:Nat}:∀(pd:List D) (k:Nat) (pre post:List D),(pd.all fun d=>Nat.beq (cellsOf d).length sz)=true→pre.length=k*sz→post.length=pd.length*sz→mz (fun i=>some (i*sz,sz)) (pre++post) (cq k pd)=some (pre++pd.flatMap cellsOf)
 | [],k,pre,post,_,_,h=>by
  have:post=[]:=length_eq_zero_iff.1 pC;simp[cq,mz,this]
 | d::r,k,pre,post,ha,h1,h2=>by
  rw[all_cons,Bool.and_eq_true] at ha;have hd:(cellsOf d).length=sz:=Nat.eq_of_beq_eq_true ha.1;have hp:post.length=r.length*sz+sz:=(by rw[h2,length_cons,Nat.succ_mul])
  rw[cq,mz];simp only;rw[if_neg (by simp only[hd,length_append,h1,hp,ne_eq,not_true_eq_false,decide_false,Bool.false_or,decide_eq_true_eq];omega),←h1,QG _ _ _ w4,TW r (k+1) _ _ ha.2 (by rw[length_append,hd,h1,Nat.succ_mul]) (by rw[length_drop,hd];omega),flatMap_cons];simp
theorem QH{pd zs:List D}(ha:(pd.all fun d=>Nat.beq (cellsOf d).length sz)=true)(hl:Nat.beq zs.length (pd.length*sz)=true)(jV:pd.flatMap cellsOf=ds):mz (fun i=>some (i*sz,sz)) zs (cq 0 pd)=some ds:=by
 have:=TW pd 0 [] zs ha bj (Nat.eq_of_beq_eq_true hl);rw[nil_append,nil_append,jV] at this;exact this
theorem OD.Mx {tt len:Nat} {z:Value} {oQ:List Value} (hw:cj ops x o true) (ho:o.op = .buildSlice t len ps.toArray) (jN:o.dst=some tt) (hz:∀w,(zeroValue e).run P w = .ok z w)
  (E:∀w,(underlying t).run P w = .ok (.slice e) w) (hs:∀w,(sizeOf e).run P w = .ok sz w) (hl:Nat.ble 1 (len*sz)=true) (iu:Nat.ble (len*sz) (2 ^ 24)=true) (fb:(Array.range (len*sz)).map (fun i=>z.cells[i % z.cells.size]!)=oQ.toArray)
  (gL:jL x ps pl) (hj:pl.all (fun p=>kY p.2)=true) (hd:mz (fun i=>some (i*sz,sz)) (oQ.map .v) pl=some ds)
  (k:∀b,OD P C ops l ⟨x.n,(tt,.v (.slice (some ⟨b,0,none⟩) len len))::x.env,⟨b,e,ds.length,ds⟩::x.S⟩ Q) (hne:isMap e=false:=by rfl):OD P C ops (o::l) x Q:=by
 refine OD.gk hw (IG (hne:=hne) (zs:=oQ.map .v) (ds:=ds) ho jN hz E hs (Nat.le_of_ble_eq_true hl) (Nat.le_of_ble_eq_true iu) ?_ ?_ ?_ ?_) ?_
 ·rw[fb];congr 1;rw[map_map];exact(map_id oQ).symm
 ·intro d hd;obtain⟨u,_,rfl⟩:=mem_map.1 hd;exact⟨u,rfl⟩
 ·rw[gL.eq];exact By hj
 ·rw[gL.eq];exact hd
 rintro _ ⟨b,rfl⟩;exact k b
theorem OD.alloc {e:TypeId} {z:Value} {t:Nat} {ds:List D} (hw:cj ops x o true) (ho:o.op = .alloc e) (hd:o.dst=some t) (hz:∀w,(zeroValue e).run P w = .ok z w) (jV:z.cells.toList.map .v=ds)
  (k:∀b,OD P C ops l ⟨x.n,(t,.v (.pointer (some ⟨b,0,none⟩)))::x.env,⟨b,e,ds.length,ds⟩::x.S⟩ Q) (hne:isMap e=false:=by rfl):OD P C ops (o::l) x Q :=
 OD.gk hw (E9 (hne:=hne) ho hd hz jV) fun y ⟨b,hy⟩=>hy ▸ k b
theorem OD.box {e:TypeId} {z:Operand} {t:Nat} {d:D} {ds:List D} (hw:cj ops x o true) (ho:o.op = .box e z) (hd:o.dst=some t) (hy:aF x z=d) (hj:kY d=true) (jV:cellsOf d=ds)
  (k:∀b,OD P C ops l ⟨x.n,(t,.v (.pointer (some ⟨b,0,none⟩)))::x.env,⟨b,e,ds.length,ds⟩::x.S⟩ Q) (hne:isMap e=false:=by rfl):OD P C ops (o::l) x Q :=
 OD.gk hw (ae5 (hne:=hne) ho hd hy (fun h=>by rw[h] at hj;cases hj) jV) fun y ⟨b,hy⟩=>hy ▸ k b
theorem OD.store {t:TypeId} {k b o' n:Nat} {B:ah} {d:D} {cs':List D} {y z:Operand} (hw:cj ops x o true) (ho:o.op = .store t y z) (jN:o.dst=none) (hy:aF x y = .v (.pointer (some ⟨b,o',none⟩)))
  (hk:x.S[k]?=some B) (hb:B.b=b) (hz:aF x z=d) (hj:kY d=true) (h1:(cellsOf d).all one=true) (hn:∀w,(sizeOf t).run P w = .ok n w) (gC:(cellsOf d).length=n) (hl:Nat.ble (o'+n) B.cs.length=true) (dy:dm B.cs o' (cellsOf d)=cs')
  (K:OD P C ops l ⟨x.n,x.env,x.S.set k {B with cs:=cs'}⟩ Q) (hne:isMap B.e=false:=by rfl):OD P C ops (o::l) x Q :=
 OD.gk hw (Fb (hne:=hne) ho jN hy hk hb hz (fun h=>by rw[h] at hj;cases hj) h1 hn gC (Nat.le_of_ble_eq_true hl) dy) fun y hy=>hy ▸ K
theorem OD.call {f t:Nat} {fo:Operand} {de:Array Operand} {ts:Array TypeId} {args:List D} {Sf R:List ah} {post:D→List ah→Prop} (hw:cj ops x o true) (ho:o.op = .call {callee:=.value fo,args:=de,argTypes:=ts}) (hd:o.dst=some t)
  (hf:fo = .func f) (fG:∀args w,(callFunc f args).run P w = .ok (.enter f args) w) (hc:VC P C.G f args Sf post) (ha:nc x de.toList args) (hp:x.S.Perm (Sf++R))
  (K:∀r S',post r S'→OD P C ops l ⟨x.n,(t,r)::x.env,S'++R⟩ Q):OD P C ops (o::l) x Q :=
 OD.gk hw (BU ho hd hf fG ha.eq hp hc) fun y ⟨r,S',h,hy⟩=>hy ▸ K r S' h
theorem OD.iC {f t:Nat} {args:List D} {r:D} (hw:cj ops x o true) (ho:o.op = .call {callee:=.value fo,args:=de,argTypes:=ts}) (hd:o.dst=some t)
  (hf:fo = .func f) (fG:∀args w,(callFunc f args).run P w = .ok (.enter f args) w) (hc:VP P C.G f args r) (ha:nc x de.toList args)
  (K:OD P C ops l (x.put t r) Q):OD P C ops (o::l) x Q :=
 OD.call hw ho hd hf fG hc ha (fg _) fun E S' ⟨h1,h2⟩=>by subst h1 h2;exact K
theorem OD.lY {f t:Nat} {args E all:List D} {Sf R:List ah} {post:D→List ah→Prop} (hw:cj ops x o true) (ho:o.op = .call {callee:=.value fo,args:=de,argTypes:=ts}) (hd:o.dst=some t)
  (hf:aF x fo = .eH (.func f) E) (fG:∀args w,(callFunc f args).run P w = .ok (.enter f args) w) (hc:VC P C.G f all Sf post) (fw:args++E=all) (ha:nc x de.toList args) (hp:x.S.Perm (Sf++R))
  (K:∀r S',post r S'→OD P C ops l ⟨x.n,(t,r)::x.env,S'++R⟩ Q):OD P C ops (o::l) x Q :=
 OD.gk hw (abt ho hd hf fG (by rw[ha.eq,fw]) hp hc) fun y ⟨r,S',h,hy⟩=>hy ▸ K r S' h
theorem OD.append {s y:Operand} {t e tt sz bytes n m b cap k:Nat} {z:Value} {B:ah} {cs:List D} (hw:cj ops x o true) (ho:o.op = .call {callee:=.builtin .append,args:=#[s,y],argTypes:=#[t,t]}) (hd:o.dst=some tt)
  (ht:P.underlying t=some (.slice e)) (hi:(P.info? e).map (fun i=>(i.zero,i.size,i.bytes))=some (some z,sz,bytes)) (fb:z.cells.size=sz) (iK:0<sz)
  (hs:aF x s = .v (.slice (some ⟨b,0,none⟩) n cap)) (hk:x.S[k]?=some B) (hb:B.b=b) (he:B.e=e) (O:B.size=cap*sz) (hl:B.cs.length=n*sz) (hn:n≤cap) (U:cap≤maxLen)
  (hy:aF x y = .list sz cs m) (iq:∀d∈cs,one d=true) (hm:0<m) (gK:n+m≤maxLen) (I:(n+m)*bytes≤140737488355328)
  (K:∀Z E,n+m≤E→E≤maxLen→OD P C ops l ⟨x.n,(tt,.v (.slice (some ⟨Z,0,none⟩) (n+m) E))::x.env,⟨Z,e,E*sz,B.cs++cs⟩::x.S.eraseIdx k⟩ Q) (hne:isMap B.e=false:=by rfl):OD P C ops (o::l) x Q :=
 OD.gk hw (Qj (hne:=hne) ho hd ht hi fb iK hs hk hb he O hl hn U hy iq hm gK I) fun y ⟨Z,E,h1,h2,hy⟩=>hy ▸ K Z E h1 h2
theorem OD.I8 {s y:Operand} {t e tt bytes m:Nat} {z:Value} {cs:List D} (hw:cj ops x o true) (ho:o.op = .call {callee:=.builtin .append,args:=#[s,y],argTypes:=#[t,t]}) (hd:o.dst=some tt)
  (ht:P.underlying t=some (.slice e)) (hi:(P.info? e).map (fun i=>(i.zero,i.size,i.bytes))=some (some z,sz,bytes)) (fb:z.cells.size=sz) (U:0<sz)
  (hs:aF x s = .v (.slice none 0 0)) (hy:aF x y = .list sz cs m) (iq:∀d∈cs,one d=true) (hm:0<m) (Z:m≤maxLen) (I:m*bytes≤140737488355328)
  (K:∀O E,m≤E→E≤maxLen→OD P C ops l ⟨x.n,(tt,.v (.slice (some ⟨O,0,none⟩) m E))::x.env,⟨O,e,E*sz,cs⟩::x.S⟩ Q) (hne:isMap e=false:=by rfl):OD P C ops (o::l) x Q :=
 OD.gk hw (PV (hne:=hne) ho hd ht hi fb U hs hy iq hm Z I) fun y ⟨O,E,h1,h2,hy⟩=>hy ▸ K O E h1 h2
theorem OD.split{t:Nat}{b:Bool}(hb:look t x.env = .v (.bool b))(h1:b=true→OD P C ops l x Q)(h2:b=false→OD P C ops l x Q):OD P C ops l x Q:=by
 cases h:b
 ·exact h2 h
 exact h1 h
theorem ZK{z:Operand}{a':Addr}(ho:o.op = .nilCheck z)(hz:aF x z = .v (.pointer (some a'))):bW P G x o .none (.v (.pointer (some a'))):=fun C a w _ h =>
 ⟨_,.v _,fun w' _=>by unfold execOp;simp only[ho,h.flat hz];rfl⟩
theorem ZJ{z:Operand}{cs:List D}{off:Nat}(ho:o.op = .nilCheck z)(hz:aF x z = .fQ cs off):bW P G x o .none (.fQ cs off):=fun C a w _ h=>by
 have hr:=h.eval z;rw[hz] at hr;generalize hg:a.eval z=u at hr;cases hr with
 | fQ _ _ b E g hb hL hc I=>exact⟨_,.fQ cs off b E g hb hL hc I,fun w' _=>by unfold execOp;simp only[ho,hg];rfl⟩
theorem pR{fn:Fn}{E:Array Operand}(ho:o.op = .makeFunc fn #[] E)(hd:nc x E.toList ds):bW P G x o .none (.eH fn ds):=aaE ho hd.eq
theorem cz{α:Type}{g:α→List D}{sz:Nat}(hg:∀a,(g a).length=sz):∀(ls:List α),(ls.flatMap g).length=ls.length*sz
 | []=>by simp
 | a::r=>by rw[flatMap_cons,length_append,hg,cz hg r,length_cons,Nat.add_mul];omega
theorem vp{α:Type}{g:α→List D}{sz:Nat}(hg:∀a,(g a).length=sz):∀(ls:List α) (i:Nat),(ls.flatMap g).drop (i*sz)=(ls.drop i).flatMap g
 | [],i=>by simp
 | a::r,0=>by simp
 | a::r,i+1=>by
  rw[flatMap_cons,drop_succ_cons,←vp hg r i,Nat.add_mul,Nat.one_mul,Nat.add_comm,←drop_drop];congr 1;rw[←hg a,drop_left]
theorem ug{α:Type}{g:α→List D}{sz:Nat}(hg:∀a,(g a).length=sz):∀(ls:List α) (i:Nat),(ls.flatMap g).take (i*sz)=(ls.take i).flatMap g
 | [],i=>by simp
 | a::r,0=>by simp
 | a::r,i+1=>by
  rw[flatMap_cons,take_succ_cons,flatMap_cons,←ug hg r i,Nat.add_mul,Nat.one_mul,Nat.add_comm,←hg a,take_length_add_append]
theorem GC{g:α→List D}(hg:∀a,(g a).length=sz){ls:List α}(hi:i<ls.length):((ls.flatMap g).drop (i*sz)).take sz=g ls[i]:=by
 rw[vp hg,drop_eq_getElem_cons hi,flatMap_cons,←hg ls[i],take_left]
theorem zz{g:α→List D}(hg:∀a,(g a).length=sz){ls:List α}{j:Nat}{d:D}(hi:i<ls.length)(hd:(g ls[i])[j]?=some d):(ls.flatMap g)[i*sz+j]?=some d:=by
 have h:=GC hg hi;have hj:=(List.getElem?_eq_some_iff.1 hd).1;rw[hg] at hj;rw[←hd,←h,getElem?_take_of_lt hj,getElem?_drop]
theorem JJ{g:α→List D}(hg:∀a,(g a).length=sz){ls:List α}{d:D}(hi:i<ls.length)(hd:(g ls[i])[0]?=some d):(ls.flatMap g)[i*sz]?=some d:=zz hg hi hd
theorem uq{g:α→List D}(hg:∀a,(g a).all one=true)(ls:List α):∀d∈ls.flatMap g,one d=true:=fun d hd=>by
 obtain⟨a,_,h⟩:=mem_flatMap.1 hd;exact all_eq_true.1 (hg a) d h
theorem aaj {g:α→List D} {h':Nat} (hg:∀a,(g a).length=sz) {ls:List α} {y:Operand} (ho:o.op = .slice t y lo hi none) (hy:aF x y = .list sz (ls.flatMap g) ls.length) (e9:mT x lo 0 0) (eK:mT x hi h' ls.length)
  (E:∀w,(underlying t).run P w = .ok (.slice e) w) (hs:∀w,(sizeOf e).run P w = .ok sz w) (h2:h'≤ls.length):bW P G x o .none (.list sz ((ls.take h').flatMap g) (ls.take h').length):=by
 have:=IK (P:=P) (G:=G) ho hy e9 eK E hs (Nat.zero_le _) h2;rw[Nat.zero_mul,drop_zero,Nat.sub_zero,ug hg] at this;rw[length_take,Nat.min_eq_left h2];exact this
theorem aak {g:α→List D} {l':Nat} (hg:∀a,(g a).length=sz) {ls:List α} {y:Operand} (ho:o.op = .slice t y lo hi none) (hy:aF x y = .list sz (ls.flatMap g) ls.length) (e9:mT x lo l' 0) (eK:mT x hi ls.length ls.length)
  (E:∀w,(underlying t).run P w = .ok (.slice e) w) (hs:∀w,(sizeOf e).run P w = .ok sz w) (h2:l'≤ls.length):bW P G x o .none (.list sz ((ls.drop l').flatMap g) (ls.drop l').length):=by
 have:=IK (P:=P) (G:=G) ho hy e9 eK E hs h2 (Nat.le_refl _);rw[vp hg,take_of_length_le (by rw[cz hg,length_drop];exact Nat.le_refl _)] at this;rw[length_drop];exact this

end Go.Proofs.YtkgmonfgofobaaaGreatDoor.V
