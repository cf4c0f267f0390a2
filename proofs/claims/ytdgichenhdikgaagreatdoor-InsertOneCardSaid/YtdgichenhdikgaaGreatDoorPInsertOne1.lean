/-
  What the proof of InsertOne leans on, part 1 of 9: walks of the program's functions at the level of values, and plain facts of what they compute.
-/
import Derived.WalkKit
import Derived.Deep.MidRow
import Derived.Deep.AppendLies
import Derived.OrdersHeld
import Derived.IntWalk
import Derived.Laws.Cover3
import Derived.ChangeKeysEq
import Derived.ProofKit
import Derived.OpenShut
import Derived.Lib.LaidTab
import Derived.Below
import Derived.Deep.Slices
import Derived.ArgAppend
import Derived.Lib.AppendStr
import Derived.MapKept
import Derived.RangeFuncLeaves
import Derived.RangeFuncOwn
import Derived.OrdersIn
import Derived.TacticsIn
import Derived.Shelf.Abstract
import Derived.RecoverIn
import Derived.WalkLawsBesides
import Derived.Lib.AppendZeros
import Derived.Laws.IdiomCopy
import Derived.Lib.Overlaps
import Derived.Lib.AppendZerosOnto
import Derived.Lib.BytesEntry
import Derived.Shelf.Strings.Builder1
import Derived.Shelf.Strings.Builder2
import Derived.Shelf.Small.Strs
import Derived.Shelf.Small.Wraps
import Derived.Shelf.Strings.BuilderF
import Derived.Shelf.Strings.BuilderK
import Derived.Shelf.Utf8.RuneCount
import Derived.Shelf.Strings.Builder2Cap
import Derived.Shelf.Strings.Search1
import Derived.Shelf.Strings.Search2
import Derived.Shelf.Strings.Search3
import Derived.Shelf.Strings.Count
import Derived.Shelf.LaysM
import Derived.Shelf.Strings.Shaped
import Derived.Shelf.Strings.Split
import Derived.Shelf.Strings.Replace
import Derived.Shelf.Strings.SplitShaped
import Derived.Shelf.Unicode.Decode
import Derived.Shelf.Strings.RuneCount
import Derived.Shelf.Unicode.DecodeSlow
import Derived.Shelf.Unicode.DecodeAny
import Derived.Shelf.Strings.BuilderCap
import Derived.Shelf.Slices.Turned
import Derived.Shelf.Slices.Reverse
import Derived.Ground.Names2Prog
import Derived.Shelf.Slices.Clone
import Derived.Shelf.Slices.SearchI
import Derived.Shelf.Slices.Delete
import Derived.Shelf.Slices.Cells
import Derived.Shelf.Slices.Empties
import Derived.Shelf.Bytes.SlSearch0
import Derived.Shelf.Bytes.SlEqualAll
import Derived.Shelf.Bytes.Small
import Derived.SizedLaws
import Derived.Lib.Bytealg
import Derived.Test.YtdgichenhdikgaaGreatDoorRows
import Derived.Test.YtdgichenhdikgaaGreatDoorProg
set_option linter.unusedVariables false
set_option linter.unusedSimpArgs false
set_option maxRecDepth 100000
set_option maxHeartbeats 4000000
namespace Go.Proofs.YtdgichenhdikgaaGreatDoor
open List
variable {p:Prop}
theorem w4(h:p:=by omega):p:=h
theorem w5(h:p:=by first|assumption|omega):p:=h
theorem w6(h:p:=by (repeat (first|exact fD|(apply fV;focus (first|rfl|(simp;done)|(congr 2;omega)|(apply eK;rw[←PI aa];unfold pO;first|(rw[FU (by assumption)];simp;done)|(rw[FV (by assumption),take_of_length_le (l:=lX (uN l[i])) (by rw[wH];omega)];simp;done)|(rw[FW (by assumption),←Bm];simp;done)|(rw[Ve (by assumption) (by assumption) (by assumption)];done))|(apply eK;rfl)|(apply eK;simp;done)))|(apply fH;focus rfl)));done):p:=h
theorem w7(h:p:=by decide):p:=h
theorem w8(h:p:=by simp only[length_append,length_map,length_cons,length_nil];omega):p:=h
theorem w9(h:p:=by simp only[maxLen,length_cons,length_nil] at *;omega):p:=h
theorem vz(h:p:=by have dm:=ec;have q1:=Bz ME i;(try have q2:=ME _ (getElem_mem aa));(try simp only[length_append,length_cons,length_nil]);omega):p:=h
theorem pW(h:p:=by simp only[maxLen,length_append,length_map,length_cons,length_nil];omega):p:=h
theorem lY(h:p:=by simp only[length_cons,length_nil] at *;omega):p:=h
theorem GX(h:p:=by rw[←PI aa];unfold pO;first|(rw[FU (by assumption)];simp;done)|(rw[FV (by assumption),take_of_length_le (l:=lX (uN l[i])) (by rw[wH];omega)];simp;done)|(rw[FW (by assumption),←Bm];simp;done)|(rw[Ve (by assumption) (by assumption) (by assumption)];done)):p:=h
theorem vA(h:p:=by show _=p.kids.take (if p.leaf=true then 2 else 3);rw[fL];rfl):p:=h
theorem vB(h:p:=by show _=p.kids.drop (if p.leaf=true then 2 else 3);rw[fL];rfl):p:=h
theorem vC(h:p:=by show _=p.keys.drop (if p.leaf=true then 2 else 3);rw[fL];rfl):p:=h
theorem bf(h:p:=by simp):p:=h
theorem zZ(h:p:=by (repeat (first|exact fD|(apply fV;focus (first|rfl|(rw[xM];done)|(simp;done)))|(apply fH;focus rfl)));done):p:=h
theorem Aa(h:p:=by exact(perm_middle (l₁:=[_,_,_])).symm.trans (Perm.cons _ (Perm.cons _ (Perm.cons _ (Perm.cons _ oV))))):p:=h
theorem jr(h:p:=by first|rfl|assumption):p:=h
theorem Ab(h:p:=by have dm:=ec;(try simp only[length_append,length_cons,length_nil,length_take,wH]);omega):p:=h
theorem GY(h:p:=by (repeat (first|exact fD|(apply fV;focus (first|rfl|(simp;done)|(congr 2;omega)|(apply eK;rfl)|(apply eK;simp;done)))|(apply fH;focus rfl)));done):p:=h
theorem Ac(h:p:=by simp only[flatten_cons,flatten_nil,length_append,length_cons,length_nil];omega):p:=h
theorem Ad(h:p:=by have dm:=ec;(try simp only[length_append,length_cons,length_nil]);omega):p:=h
theorem mQ(h:p:=by first|rfl|simp[St.put]):p:=h
theorem MF(h:p:=by show dw (L.flatMap gO) (0+i.toNat*5) (gO (⟨bq p L.length,cu,cx,cg,bK,bL,bA⟩:aB))=_;rw[Nat.zero_add];exact oP gk L (⟨bq p L.length,cu,cx,cg,bK,bL,bA⟩:aB) hj):p:=h
theorem j6(h:p:=by first|rfl|simp):p:=h
theorem Ae(h:p:=by simp only[maxLen,length_set,length_cons,length_nil] at *;omega):p:=h
theorem iq(h:p:=by simp;omega):p:=h
theorem oW(h:p:=by rw[length_take];omega):p:=h
theorem Af(h:p:=by simp only[length_set,length_cons,length_nil] at *;omega):p:=h
theorem sP(h:p:=by rw[pP,jm,append_assoc];rfl):p:=h
theorem rD(h:p:=by rw[length_set];exact fZ):p:=h
theorem MG(h:p:=by have:=I2 s.names s.names.length;(try rw[sQ]);simp only[length_append,length_map,length_cons,length_nil];omega):p:=h
theorem oX(h:p:=by rw[append_nil]):p:=h
theorem Ag(h:p:=by rw[length_append,length_singleton];omega):p:=h
theorem GZ(h:p:=by simp only[maxLen,length_append,length_cons,length_nil] at *;omega):p:=h
theorem sR(h:p:=by rw[y2,pP,jm];simp):p:=h
theorem CU(h:p:=by first|rfl|(show(1:Int)+_=1+_;omega)|omega):p:=h
theorem vD(h:p:=by rw[length_append];omega):p:=h
theorem qF(h:p:=by rw[tQ];omega):p:=h
theorem G0(h:p:=by show 0+_*1+1≤_;rw[cr eC,length_set];omega):p:=h
theorem vE(h:p:=by rw[length_set];omega):p:=h
theorem uj(h:p:=by first|exact yS rfl gl (fun h=>by cases h) runUnderlying151 sizeOf88 w4|exact oQ (fun _=>rfl) runUnderlying151 sizeOf88 w4|exact yT (fun h=>by cases h) (fun _=>rfl) runUnderlying151 sizeOf88 w4 w4|exact n8 (fun h=>by cases h) (fun _=>rfl) runUnderlying151 sizeOf88 w4 w4):p:=h
theorem uk(h:p:=by first|exact yS rfl eC (fun h=>by cases h) runUnderlying67 sizeOf3 w4|exact oQ (fun _=>rfl) runUnderlying67 sizeOf3 w4|exact yT (fun h=>by cases h) (fun _=>rfl) runUnderlying67 sizeOf3 w4 w4|exact n8 (fun h=>by cases h) (fun _=>rfl) runUnderlying67 sizeOf3 w4 w4):p:=h
theorem Ah(h:p:=by rw[length_append,length_set];exact(show IntKind.wrap .i64 (((L.length+[(⟨bz p,dy,dz,cL,dA,dB,cM⟩:aB)].length:Nat):Int)-1)=_ from by rw[show(((L.length+[(⟨bz p,dy,dz,cL,dA,dB,cM⟩:aB)].length:Nat):Int)-1)=(L.length:Int) from by simp];exact wrap_i64 w4 w4)):p:=h
theorem Ai(h:p:=by first|exact yS rfl gl (fun h=>by cases h) runUnderlying67 sizeOf3 w4|exact yS rfl eC (fun h=>by cases h) runUnderlying67 sizeOf3 w4|exact oQ (fun _=>rfl) runUnderlying67 sizeOf3 w4|exact n8 (fun h=>by cases h) (fun _=>rfl) runUnderlying67 sizeOf3 w4 w4):p:=h
theorem Aj(h:p:=by first|exact oO gl (fun h=>by cases h) runUnderlying67 sizeOf3 w4|exact oO eC (fun h=>by cases h) runUnderlying67 sizeOf3 w4|exact oQ (fun h=>by cases h) runUnderlying67 sizeOf3 w4|exact n8 (fun _=>rfl) (fun h=>by cases h) runUnderlying67 sizeOf3 w4 w4):p:=h
theorem G1(h:p:=by first|exact yS rfl gl (fun h=>by cases h) runUnderlying151 sizeOf88 w4|exact yS rfl eC (fun h=>by cases h) runUnderlying151 sizeOf88 w4|exact oQ (fun _=>rfl) runUnderlying151 sizeOf88 w4|exact n8 (fun h=>by cases h) (fun _=>rfl) runUnderlying151 sizeOf88 w4 w4):p:=h
theorem G2(h:p:=by first|exact oO nf (fun h=>by cases h) runUnderlying30 sizeOf43 w4|exact oQ (fun h=>by cases h) runUnderlying30 sizeOf43 w4|exact n8 (fun _=>rfl) (fun h=>by cases h) runUnderlying30 sizeOf43 w4 w4):p:=h
theorem MH(h:p:=by first|exact oO gl (fun h=>by cases h) runUnderlying151 sizeOf88 w4|exact oQ (fun h=>by cases h) runUnderlying151 sizeOf88 w4|exact yT (fun _=>rfl) (fun h=>by cases h) runUnderlying151 sizeOf88 w4 w4|exact n8 (fun _=>rfl) (fun h=>by cases h) runUnderlying151 sizeOf88 w4 w4):p:=h
theorem MI(h:p:=by first|exact oO eC (fun h=>by cases h) runUnderlying67 sizeOf3 w4|exact oQ (fun h=>by cases h) runUnderlying67 sizeOf3 w4|exact yT (fun _=>rfl) (fun h=>by cases h) runUnderlying67 sizeOf3 w4 w4|exact n8 (fun _=>rfl) (fun h=>by cases h) runUnderlying67 sizeOf3 w4 w4):p:=h
theorem MJ(h:p:=by first|exact oO jl (fun h=>by cases h) runUnderlying29 sizeOf9 w4|exact oO lM (fun h=>by cases h) runUnderlying29 sizeOf9 w4|exact oQ (fun h=>by cases h) runUnderlying29 sizeOf9 w4|exact n8 (fun _=>rfl) (fun h=>by cases h) runUnderlying29 sizeOf9 w4 w4):p:=h
theorem MK(h:p:=by (repeat (first|exact fD|(apply fV;focus (first|rfl|(simp;done)|(congr 2;omega)|(apply eK;first|exact Iw aa w4 _|exact Ih aa w4 _)|(apply eK;simp[jS])|(apply eK;simp;done)))|(apply fH;focus rfl)));done):p:=h
theorem qG(h:p:=by rw[←Int.ofNat_sub w4];exact wrap_i64 w4 w4):p:=h
theorem ML(h:p:=by rw[←show(p.kids.take 3)=(bq p L.length).kids from vA];simp only[length_take,length_drop];omega):p:=h
theorem MM(h:p:=by rw[←show(p.kids.take 2)=(bq p L.length).kids from vA];simp only[length_take,length_drop];omega):p:=h
theorem Ak(h:p:=by rw[←Int.natCast_add];exact wrap_i64 w4 w4):p:=h
theorem MN(h:p:=by rw[←show(p.kids.drop 3)=(bz p).kids from vB];simp only[length_take,length_drop];omega):p:=h
theorem MO(h:p:=by rw[←show(p.kids.drop 2)=(bz p).kids from vB];simp only[length_take,length_drop];omega):p:=h
theorem MP(h:p:=by rw[←show(p.keys.drop 3)=(bz p).keys from vC];simp only[length_take,length_drop];omega):p:=h
theorem MQ(h:p:=by rw[←show(p.keys.drop 2)=(bz p).keys from vC];simp only[length_take,length_drop];omega):p:=h
theorem MR(h:p:=by rw[show(((a+(t+1):Nat):Int)-1)=((a+t:Nat):Int) by omega];exact wrap_i64 w4 w4):p:=h
theorem CV(h:p:=by show(-1:Int)≤9223372036854775807;decide):p:=h
theorem xN(h:p:=by rw[length_set];exact hj):p:=h
theorem oY(h:p:=by simpa using h):p:=h
theorem rE(h:p:=by rw[←ho];rfl):p:=h
theorem vF(h:p:=by rw[←xO];exact fZ):p:=h
theorem MS(h:p:=by show 0+i.toNat*5+5≤(flatMap gO L).length;rw[cr gk];omega):p:=h
theorem MT(h:p:=by rw[show((j:Int)-1)=((j-1:Nat):Int) by omega];exact wrap_i64 w4 w4):p:=h
theorem xP(h:p:=by rw[g.ay];exact aef):p:=h
theorem MU(h:p:=by exact iY (k:=2) (i:=(eL H l[i])) gl rfl rfl rfl isAgg98 gJ rfl):p:=h
theorem MV(h:p:=by exact iY (k:=1) (i:=(eL H l[i])) gl rfl rfl rfl isAgg98 gJ rfl):p:=h
theorem MW(h:p:=by exact iY (k:=0) (i:=(eL H l[i])) gl rfl rfl rfl isAgg98 gJ rfl):p:=h
theorem G3(h:p:=by show 0+_*1+1≤_;rw[cr eC];omega):p:=h
theorem um(h:p:=by simp at aM;omega):p:=h
theorem MX(h:p:=by unfold iM;rw[if_neg cN,if_neg en,if_neg fq,if_pos gG,sS]):p:=h
theorem vG(h:p:=by simp[maxLen];omega):p:=h
theorem MY(h:p:=by first|omega|(rw[length_append,length_singleton];omega)):p:=h
theorem MZ(h:p:=by rw[eu];exact mem_flatMap.2 ⟨_,getElem_mem d1,hx⟩):p:=h
theorem Am(h:p:=by rw[length_set];rfl):p:=h
theorem uo(h:p:=by rw[vg];simp):p:=h
theorem M1(h:p:=by first|exact fun _ hq=>hq|exact fun _ hq=>by cases hq.1):p:=h
theorem xQ(h:p:=by rw[g.ay];decide):p:=h
theorem vH(h:p:=by rw[gg];decide):p:=h
theorem sU(h:p:=by rw[y1];rfl):p:=h
theorem An(h:p:=by first|omega|decide):p:=h
theorem vI(h:p:=by simpa using aY):p:=h
theorem vJ(h:p:=by rw[xM];omega):p:=h
theorem G4(h:p:=by rw[length_append];simp;omega):p:=h
theorem Ao(h:p:=by simpa[aq] using ee):p:=h
theorem Ap(h:p:=by show 1≤10;decide):p:=h
theorem Aq(h:p:=by simpa[aq] using hj):p:=h
theorem Ar(h:p:=by rw[Fb];decide):p:=h
theorem M2(h:p:=by show _≤1000;exact Nat.le_of_ble_eq_true rfl):p:=h
theorem xR(h:p:=by simpa using aM):p:=h
theorem xS(h:p:=by rw[h4];decide):p:=h
theorem G5(h:p:=by rw[length_set];exact CW):p:=h
theorem As(h:p:=by exact fun _=>rfl):p:=h
theorem Lo(h:p:=by show w.heap.size<(w.heap.push _).size;simp):p:=h
theorem xo(h:p:=by simpa using hl):p:=h
theorem Lp(h:p:=by show(w.heap.push _)[w.heap.size]?=_;simp):p:=h
theorem Lq(h:p:=by rw[cr uU,length_take];omega):p:=h
theorem tY(h:p:=by assumption):p:=h
theorem Gk(h:p:=by rw[length_map];omega):p:=h
theorem Gl(h:p:=by simp only[maxLen];omega):p:=h
theorem Gm(h:p:=by show i<cs.length;omega):p:=h
theorem z4(h:p:=by
  refine AD.one (i:=9) aA ?_;refine at_ rfl (cW (mk:=Op.load 9) rfl ot (by exact qu (g:=cS) (ls:=eE) (i:=tj) (d:=bw tn) jl isAgg9 rF (by show some (D.v (.string (eE[tj]'rF)))=some (D.v (.string tn));rw[VL]))) ?_;refine cA 10 rfl (nE (pl:=[(0,_),(1,_),(9,_)]) (ds:=[_,_,_,_,_,_,_,_,_,_,_,_]) rfl zeroValue32 runUnderlying32 OZ ⟨rfl,ot,rfl,ot,rfl,bI,trivial⟩ rfl rfl) ?_;refine AD.one (i:=12) aA ?_;refine dV 0 [_,_,_,_,_,_,_,_,_,_,_,_] sizeOf32 ?_;refine Xb [(1,_),(2,_),(3,_)] [⟨b3,32,12,[_,_,_,_,_,_,_,_,_,_,_,_]⟩,⟨b2,32,12,[_,_,_,_,_,_,_,_,_,_,_,_]⟩,⟨b1,77,14,[_,_,_,_,_,_,_,_,_,_,_,_,_,_]⟩] ?_;refine AD.done aA ?_;exact⟨rfl,_,trivial,Wk.refl _⟩):p:=h
theorem z5(h:p:=by
  refine CD.perm (dZ (A:=[_,_,_,_,_,_,_,_])) ?_;refine fR 6 (aq (take 1 _)) ?_ (fun _ h=>(Sublist.map _ (take_sublist _ _)).subset h);refine az 0 rfl bp ?_;refine az 1 rfl bp ?_;first|refine az 2 rfl (El (n:=st.length) (k:=(take (st.length-(bP ops[i].k).toNat) st).length) (cs:=st.flatMap cV) rfl ot rfl ⟨_,_,ot,by rw[length_take];omega⟩ runUnderlying28 sizeOf41 oW nR) ?_|refine az 2 rfl (El (n:=st.length) (k:=(take (st.length-(bP ops[i].k).toNat) st).length) (cs:=st.flatMap cV) rfl ot rfl ⟨_,_,ot,by rw[length_take];omega⟩ runUnderlying28 sizeOf41 oW (bE (e:=41) (g:=cV) (ls:=st) xp wR)) ?_
  refine az 3 rfl (cW (mk:=Op.load 41) rfl ot (by first|exact qq (k:=0) (ds:=[_,_,_]) rfl rfl isAgg41 sizeOf41 rfl rfl|exact j5 nf isAgg41 sizeOf41 w5|exact j5 fi isAgg41 sizeOf41 w5|exact dR (k:=0) nf rfl rfl rfl isAgg41 sizeOf41 w5|exact dR (k:=1) nf rfl rfl rfl isAgg41 sizeOf41 w5|exact dR (k:=2) nf rfl rfl rfl isAgg41 sizeOf41 w5|exact dR (k:=3) nf rfl rfl rfl isAgg41 sizeOf41 w5|exact dR (k:=4) nf rfl rfl rfl isAgg41 sizeOf41 w5|exact dR (k:=5) nf rfl rfl rfl isAgg41 sizeOf41 w5|exact dR (k:=6) nf rfl rfl rfl isAgg41 sizeOf41 w5|exact dR (k:=7) nf rfl rfl rfl isAgg41 sizeOf41 w5|exact dR (k:=0) fi rfl rfl rfl isAgg41 sizeOf41 w5|exact dR (k:=1) fi rfl rfl rfl isAgg41 sizeOf41 w5|exact dR (k:=2) fi rfl rfl rfl isAgg41 sizeOf41 w5|exact dR (k:=3) fi rfl rfl rfl isAgg41 sizeOf41 w5|exact dR (k:=4) fi rfl rfl rfl isAgg41 sizeOf41 w5|exact dR (k:=5) fi rfl rfl rfl isAgg41 sizeOf41 w5|exact dR (k:=6) fi rfl rfl rfl isAgg41 sizeOf41 w5|exact dR (k:=7) fi rfl rfl rfl isAgg41 sizeOf41 w5|exact qx (ds:=[_,_,_]) isAgg41 sizeOf41 rfl rfl)) ?_;refine dD.later rfl ?_;refine AD.one (i:=4) aA ?_;refine js (bW 0 [_]) [.int .i64 0,.int .i64 0,.string ⟨#[]⟩] [_,_,_] zeroValue41 runUnderlying28 sizeOf41 (fun At=>?_);refine jt 0 58 3 1 ?_;refine AD.one (i:=5) aA ?_
  refine bj.ek (ls:=(take (st.length-(bP ops[i].k).toNat) (st))) (new:=[(fX l row ops[i] (fj bJ ops[i].k st) (eW bJ ops[i].k st)).1]) (Sq:=Ch) fi FD rfl ap rfl rfl underlying28 Z1 rfl w7 ot BR (de (A:=[_,_,_,_,_,_,_,_])) ot bf vG iq (fun sV sB Ci Cj=>?_);refine AD.perm (dZ (S1:=[⟨sV,41,sB*3,flatMap cV ((take (st.length-(bP ops[i].k).toNat) (st))++[(fX l row ops[i] (fj bJ ops[i].k st) (eW bJ ops[i].k st)).1])⟩]) (A:=[_,_,_,_,_,_,_,_])) ?_;refine eH ?_;refine bg [1,4,6,7,16,17,18] ?_;refine cm [1,4,6,7,16,17,18] ?_;refine⟨((i+1),(st.take (st.length-(bP ops[i].k).toNat)++[(fX l row ops[i] (fj bJ ops[i].k st) (eW bJ ops[i].k st)).1]),(some ⟨sV,0,none⟩),sB,[⟨sV,41,sB*3,flatMap cV ((take (st.length-(bP ops[i].k).toNat) (st))++[(fX l row ops[i] (fj bJ ops[i].k st) (eW bJ ops[i].k st)).1])⟩]),_,cD,(aK (h:=by repeat (first|exact trivial|refine⟨GY,?_⟩))),w4,(by rw[sW];omega),nS,(hinv.trans (SL aa hz)),aix,(bn.cast (bE Ci Cj) (by rfl)),rfl⟩):p:=h
theorem z6(h:p:=by
  refine cZ [0,4,5,6,73,74] ?_;refine aS 2 ?_ (h:=by exact(Eo (pl:=[(0,_),(1,_)]) (ds:=[_,_,_,_,_,_]) rfl zeroValue173 runUnderlying173 sizeOf41 ⟨rfl,ot,rfl,ot,trivial⟩ rfl rfl));refine bG ?_;refine eA [0,4,5,6,73] (fun aU _ (i:Nat) aH=>(i≤2)∧(∀j,j<i→¬((iN a b j).k≠2∧(iN a b j).k≠0))∧aH=(⟨106,(74,ae (i:Nat))::aU,[⟨b6,41,3,[ae 0,ae 0,gb]⟩,⟨b5,41,3,[ae b.k,ae b.n,bw b.s]⟩,⟨b4,41,3,[ae a.k,ae a.n,bw a.s]⟩]⟩:St)) (fun (i:Nat)=>2-i) 0 ⟨(Nat.zero_le _),(fun j hj=>absurd hj (Nat.not_lt_zero _)),rfl⟩ ?_;rintro i _ ⟨hi,fh,rfl⟩;have M3:k=8∨k=9∨k=10:=(by omega)
  refine af [0,4,5,6,73,74,75] ?_;refine au ?_ ?_<;>intro Gn BS
  ·have aa:i<2:=(by omega)
   refine bY ?_;refine bN (H9 (j:=i) rfl ot ot runUnderlying173 sizeOf41 isAgg41 rfl aa (Iy a b aa)) ?_;refine OD.alloc (ds:=[_,_,_]) ap rfl rfl zeroValue41 rfl (fun jN=>?_);refine aP 0 [_,_,_] sizeOf41 ?_;refine an 106 [0,4,5,6,11,73,74] ?_;refine aD 4 ?_;refine bV 80 (fun Lr FX=>?_) (fun Lr FX=>?_)
   ·refine bg [0,4,5,6,73,74,84] ?_;refine au ?_ ?_<;>intro vh FY
    ·have aW:iz k a b=(bJ,4):=aeg oA M3 aa (by simp_all) (by simp_all);refine aD 1 ?_;refine aP 1 [_,_,_] sizeOf41 ?_;refine an 106 [6,7] ?_;refine aI [] ?_;rw[aW];first|exact⟨rfl,rfl⟩|(refine⟨?_,rfl⟩;clear aW fb xT mR j7 oB nu;generalize (fu a b==0)=z1 at *;generalize (decide (fu a b<0))=z2 at *;subst_vars;simp_all;done)
    have iA:¬((iN a b i).k≠2∧(iN a b i).k≠0):=(by simp_all)
    refine cm [0,4,5,6,73,74] ?_;refine⟨(i+1),_,cD,aK,w4,(EP (p:=fun v=>¬(v.k≠2∧v.k≠0)) fh iA),rfl⟩
   refine bg [0,4,5,6,73,74,84] ?_;refine fM ?_;have iA:¬((iN a b i).k≠2∧(iN a b i).k≠0):=(by simp_all)
   refine cm [0,4,5,6,73,74] ?_;refine⟨(i+1),_,cD,aK,w4,(EP (p:=fun v=>¬(v.k≠2∧v.k≠0)) fh iA),rfl⟩
  have CX:=JE (p:=fun v=>¬(v.k≠2∧v.k≠0)) fh w4;have M4:=PJ oA M3 (fun h=>h.elim CX.1 CX.2);refine cJ [0,4,5,6,89] (nu) ?_;refine au ?_ ?_<;>intro Gp ag5
  ·have aW:iz k a b=(bJ,0):=(by rw[M4,if_pos Gp])
   refine aD 1 ?_;refine aP 0 [_,_,_] sizeOf41 ?_;refine an 106 [6,7] ?_;refine aI [] ?_;rw[aW];first|exact⟨rfl,rfl⟩|(refine⟨?_,rfl⟩;clear aW fb xT mR j7 oB nu;generalize (fu a b==0)=z1 at *;generalize (decide (fu a b<0))=z2 at *;subst_vars;simp_all;done)
  refine cJ [6,12,13] (xT) ?_;refine af [6,12,101] ?_;refine au ?_ ?_<;>intro Ls ag6
  ·have aW:iz k a b=(bJ,5):=(by rw[M4,if_neg (by rw[Gp];simp),if_neg (by simpa using Ls)])
   refine aD 1 ?_;refine aP 0 [_,_,_] sizeOf41 ?_;refine an 106 [6,7] ?_;refine aI [] ?_;rw[aW];first|exact⟨rfl,rfl⟩|(refine⟨?_,rfl⟩;clear aW fb xT mR j7 oB nu;generalize (fu a b==0)=z1 at *;generalize (decide (fu a b<0))=z2 at *;subst_vars;simp_all;done)
  have aW:iz k a b=(⟨2,(pE k a.n b.n).1,⟨#[]⟩⟩,0):=(by rw[M4,if_neg (by rw[Gp];simp),if_pos (by simpa using Ls)])
  refine aD 2 ?_;refine aP 0 [_,_,_] sizeOf41 ?_;refine an 106 [6,7] ?_;refine aI [] ?_;rw[aW];first|exact⟨rfl,rfl⟩|(refine⟨?_,rfl⟩;clear aW fb xT mR j7 oB nu;generalize (fu a b==0)=z1 at *;generalize (decide (fu a b<0))=z2 at *;subst_vars;simp_all;done)):p:=h
theorem z7(h:p:=by
  refine aP 0 [_,_,_] sizeOf41 ?_;refine an 106 [6,7] ?_;refine aI [] ?_;rw[aW];first|exact⟨rfl,rfl⟩|(refine⟨?_,rfl⟩;clear aW fb xT mR j7 oB nu;generalize (fu a b==0)=z1 at *;generalize (decide (fu a b<0))=z2 at *;subst_vars;simp_all;done)):p:=h
theorem z8(h:p:=by
  refine AD.one (i:=17) aA ?_;refine bj.call rfl ap rfl rfl rfl call131 (Pd p.kids (aL (t.pg (aJ t k h t.root)) k) ci bi pX fA G6 w4) ⟨ot,ot,ot,trivial⟩ (ko (k:=5) rfl) iB ?_;rintro _ _ ⟨rfl,rfl⟩;refine AD.perm (perm_middle (l₁:=[_,_,_,_,_])).symm ?_;refine cA 18 rfl lZ ?_;refine cA 19 rfl (dr 1) ?_;refine AD.one (i:=20) aA ?_;refine bj.storeAt (k:=3) (cs':=flatMap gO (L.set (aJ t k h t.root).toNat (⟨{p with keys:=(p.keys.eraseIdx (aL (t.pg (aJ t k h t.root)) k))},some ⟨bk,0,none⟩,ck,[⟨bk,88,ck*1,flatMap cK (p.keys.eraseIdx (aL (t.pg (aJ t k h t.root)) k))⟩],some ⟨bi,0,none⟩,ci,[⟨bi,3,ci*1,flatMap cI p.kids⟩]⟩:aB))) rfl ap rfl rfl ot rfl rfl ot rfl rfl sizeOf151 rfl (by show 0+(aJ t k h t.root).toNat*5+1+1≤(flatMap gO L).length;rw[cr gk];omega) (by show(L.flatMap gO).set (0+(aJ t k h t.root).toNat*5+1) _=_;rw[Nat.zero_add];exact wc gk w7 hj (by rw[←ho];show gO (⟨{p with keys:=(p.keys.eraseIdx (aL (t.pg (aJ t k h t.root)) k))},some ⟨bk,0,none⟩,ck,[⟨bk,88,ck*1,flatMap cK (p.keys.eraseIdx (aL (t.pg (aJ t k h t.root)) k))⟩],some ⟨bi,0,none⟩,ci,[⟨bi,3,ci*1,flatMap cI p.kids⟩]⟩:aB)=(gO (⟨p,some ⟨bk,0,none⟩,ck,[⟨bk,88,ck*1,flatMap cK p.keys⟩],some ⟨bi,0,none⟩,ci,[⟨bi,3,ci*1,flatMap cI p.kids⟩]⟩:aB)).set 1 _;unfold gO;rw[length_eraseIdx_of_lt ha];rfl)) iB ?_;refine eH ?_;refine aE 2 ?_
  refine OD.storeAt (k:=3) (cs':=flatMap gO (L.set (aJ t k h t.root).toNat (⟨(kG p (aL (t.pg (aJ t k h t.root)) k)),some ⟨bk,0,none⟩,ck,[⟨bk,88,ck*1,flatMap cK (p.keys.eraseIdx (aL (t.pg (aJ t k h t.root)) k))⟩],some ⟨bi,0,none⟩,ci,[⟨bi,3,ci*1,flatMap cI (p.kids.eraseIdx (aL (t.pg (aJ t k h t.root)) k))⟩]⟩:aB))) ap rfl rfl ot rfl rfl ot rfl rfl sizeOf67 rfl (by show 0+(aJ t k h t.root).toNat*5+2+1≤(flatMap gO (L.set (aJ t k h t.root).toNat (⟨{p with keys:=(p.keys.eraseIdx (aL (t.pg (aJ t k h t.root)) k))},some ⟨bk,0,none⟩,ck,[⟨bk,88,ck*1,flatMap cK (p.keys.eraseIdx (aL (t.pg (aJ t k h t.root)) k))⟩],some ⟨bi,0,none⟩,ci,[⟨bi,3,ci*1,flatMap cI p.kids⟩]⟩:aB))).length;rw[cr gk,length_set];omega) (by show(flatMap gO (L.set (aJ t k h t.root).toNat (⟨{p with keys:=(p.keys.eraseIdx (aL (t.pg (aJ t k h t.root)) k))},some ⟨bk,0,none⟩,ck,[⟨bk,88,ck*1,flatMap cK (p.keys.eraseIdx (aL (t.pg (aJ t k h t.root)) k))⟩],some ⟨bi,0,none⟩,ci,[⟨bi,3,ci*1,flatMap cI p.kids⟩]⟩:aB))).set (0+(aJ t k h t.root).toNat*5+2) _=_;rw[Nat.zero_add,wc gk (a':=(⟨(kG p (aL (t.pg (aJ t k h t.root)) k)),some ⟨bk,0,none⟩,ck,[⟨bk,88,ck*1,flatMap cK (p.keys.eraseIdx (aL (t.pg (aJ t k h t.root)) k))⟩],some ⟨bi,0,none⟩,ci,[⟨bi,3,ci*1,flatMap cI (p.kids.eraseIdx (aL (t.pg (aJ t k h t.root)) k))⟩]⟩:aB)) w7 xN (by rw[getElem_set_self];show gO (⟨(kG p (aL (t.pg (aJ t k h t.root)) k)),some ⟨bk,0,none⟩,ck,[⟨bk,88,ck*1,flatMap cK (p.keys.eraseIdx (aL (t.pg (aJ t k h t.root)) k))⟩],some ⟨bi,0,none⟩,ci,[⟨bi,3,ci*1,flatMap cI (p.kids.eraseIdx (aL (t.pg (aJ t k h t.root)) k))⟩]⟩:aB)=(gO (⟨{p with keys:=(p.keys.eraseIdx (aL (t.pg (aJ t k h t.root)) k))},some ⟨bk,0,none⟩,ck,[⟨bk,88,ck*1,flatMap cK (p.keys.eraseIdx (aL (t.pg (aJ t k h t.root)) k))⟩],some ⟨bi,0,none⟩,ci,[⟨bi,3,ci*1,flatMap cI p.kids⟩]⟩:aB)).set 2 _;unfold gO kG;simp only[];rw[length_eraseIdx_of_lt pX];rfl),set_set]) ?_
  have vK:(⟨bk,88,ck*1,flatMap cK (p.keys.eraseIdx (aL (t.pg (aJ t k h t.root)) k))⟩::⟨bi,3,ci*1,flatMap cI (p.kids.eraseIdx (aL (t.pg (aJ t k h t.root)) k))⟩::((L.eraseIdx (aJ t k h t.root).toNat).flatMap bO)).Perm ((L.set (aJ t k h t.root).toNat (⟨(kG p (aL (t.pg (aJ t k h t.root)) k)),some ⟨bk,0,none⟩,ck,[⟨bk,88,ck*1,flatMap cK (p.keys.eraseIdx (aL (t.pg (aJ t k h t.root)) k))⟩],some ⟨bi,0,none⟩,ci,[⟨bi,3,ci*1,flatMap cI (p.kids.eraseIdx (aL (t.pg (aJ t k h t.root)) k))⟩]⟩:aB)).flatMap bO):=(qT bO hj (⟨(kG p (aL (t.pg (aJ t k h t.root)) k)),some ⟨bk,0,none⟩,ck,[⟨bk,88,ck*1,flatMap cK (p.keys.eraseIdx (aL (t.pg (aJ t k h t.root)) k))⟩],some ⟨bi,0,none⟩,ci,[⟨bi,3,ci*1,flatMap cI (p.kids.eraseIdx (aL (t.pg (aJ t k h t.root)) k))⟩]⟩:aB)).symm;refine OD.perm (Perm.cons _ (Perm.cons _ (Perm.cons _ (Perm.cons _ vK)))) ?_;refine an 58 [4,7] ?_;refine aD 1 ?_;refine aP 1 [_,_] sizeOf51 ?_;refine an 58 [4,5] ?_
  refine aI ([⟨bx,153,cap*5,flatMap gO (L.set (aJ t k h t.root).toNat (⟨(kG p (aL (t.pg (aJ t k h t.root)) k)),some ⟨bk,0,none⟩,ck,[⟨bk,88,ck*1,flatMap cK (p.keys.eraseIdx (aL (t.pg (aJ t k h t.root)) k))⟩],some ⟨bi,0,none⟩,ci,[⟨bi,3,ci*1,flatMap cI (p.kids.eraseIdx (aL (t.pg (aJ t k h t.root)) k))⟩]⟩:aB))⟩]++(L.set (aJ t k h t.root).toNat (⟨(kG p (aL (t.pg (aJ t k h t.root)) k)),some ⟨bk,0,none⟩,ck,[⟨bk,88,ck*1,flatMap cK (p.keys.eraseIdx (aL (t.pg (aJ t k h t.root)) k))⟩],some ⟨bi,0,none⟩,ci,[⟨bi,3,ci*1,flatMap cI (p.kids.eraseIdx (aL (t.pg (aJ t k h t.root)) k))⟩]⟩:aB)).flatMap bO) ?_;unfold ri;rw[if_pos hz,if_pos gg];refine⟨_,rfl,L.set (aJ t k h t.root).toNat (⟨(kG p (aL (t.pg (aJ t k h t.root)) k)),some ⟨bk,0,none⟩,ck,[⟨bk,88,ck*1,flatMap cK (p.keys.eraseIdx (aL (t.pg (aJ t k h t.root)) k))⟩],some ⟨bi,0,none⟩,ci,[⟨bi,3,ci*1,flatMap cI (p.kids.eraseIdx (aL (t.pg (aJ t k h t.root)) k))⟩]⟩:aB),some ⟨bx,0,none⟩,cap,_,by rw[length_set];rfl,bE rD rG,fun x hx=>?_,?_,rfl⟩
  ·rcases mem_or_eq_of_mem_set hx with hx|rfl
   ·exact aQ x hx
   exact⟨bE (by show(p.keys.eraseIdx (aL (t.pg (aJ t k h t.root)) k)).length≤ck;rw[length_eraseIdx_of_lt ha];omega) xU,bE (by show(p.kids.eraseIdx (aL (t.pg (aJ t k h t.root)) k)).length≤ci;rw[length_eraseIdx_of_lt pX];omega) G6⟩
  rw[map_set,hL];show _=t.ag.set (aJ t k h t.root).toNat (kG (t.pg (aJ t k h t.root)) (aL (t.pg (aJ t k h t.root)) k));rw[←gS]):p:=h
theorem z10(h:p:=by
  refine AD.one (i:=12) aA ?_;refine dV 0 [_,_,_,_,_,_,_,_,_,_,_,_] sizeOf32 ?_;refine Xb [(1,_),(2,_),(3,_)] [⟨b3,32,12,[_,_,_,_,_,_,_,_,_,_,_,_]⟩,⟨b2,32,12,[_,_,_,_,_,_,_,_,_,_,_,_]⟩,⟨b1,77,14,[_,_,_,_,_,_,_,_,_,_,_,_,_,_]⟩] ?_;refine AD.done aA ?_;exact⟨rfl,_,trivial,Wk.refl _⟩):p:=h
theorem M5(h:p:=by
  refine AD.one (i:=15) aA ?_;refine bj.ek (ls:=L) (new:=[(⟨(t.ag[i]'aa),iC,iD,Sy,l5,l6,Sz⟩:aB)]) (Sq:=Sx) gk uV rfl ap rfl rfl underlying49 ZF rfl w7 ot dW (QS (A:=[_,_,_])) ot bf w9 lY (fun G7 Gq aiy aiz=>?_);refine AD.perm (acm (S3:=[⟨G7,153,Gq*5,flatMap gO (L++[(⟨(t.ag[i]'aa),iC,iD,Sy,l5,l6,Sz⟩:aB)])⟩]) (A:=[_,_,_])) ?_;refine AD.perm (S':=⟨b5,153,5,cP (t.ag[i]'aa)⟩::⟨b3,51,2,[aN dg L.length cR,ae t.root]⟩::⟨b2,51,2,[cf,ae 0]⟩::([⟨G7,153,Gq*5,flatMap gO (L++[(⟨(t.ag[i]'aa),iC,iD,Sy,l5,l6,Sz⟩:aB)])⟩]++(L++[(⟨(t.ag[i]'aa),iC,iD,Sy,l5,l6,Sz⟩:aB)]).flatMap bO)) (iH fun jg=>by rw[SM];simp only[bO,map_append,map_cons,map_nil,sum_append,sum_cons,sum_nil];omega) ?_;refine eH ?_;refine aE 1 ?_;refine aP 1 [_,_] sizeOf49 ?_;refine an 51 [2,3,13,14,15] ?_;refine cm [2,3,13,14,15] ?_;refine⟨((i+1),(L++[(⟨(t.ag[i]'aa),iC,iD,Sy,l5,l6,Sz⟩:aB)]),(some ⟨G7,0,none⟩),Gq,[⟨G7,153,Gq*5,flatMap gO (L++[(⟨(t.ag[i]'aa),iC,iD,Sy,l5,l6,Sz⟩:aB)])⟩]),_,cD,aK,w4,vL,jT,(bE aiy aiz),rfl⟩):p:=h
theorem z12(h:p:=by
  refine CD.perm (dZ (A:=[_,_])) ?_;refine dM 2 ?_;first|refine bN (El (n:=st.length) (k:=(take (st.length-(bP ops[i].k).toNat) st).length) (cs:=st.flatMap cI) rfl ot rfl ⟨_,_,ot,by rw[length_take];omega⟩ runUnderlying67 sizeOf3 oW nR) ?_|refine OD.still ap rfl (El (n:=st.length) (k:=(take (st.length-(bP ops[i].k).toNat) st).length) (cs:=st.flatMap cI) rfl ot rfl ⟨_,_,ot,by rw[length_take];omega⟩ runUnderlying67 sizeOf3 oW (bE (e:=3) (g:=cI) (ls:=st) xp wR)) ?_
  refine aE 1 ?_;refine ei (bW 0 [_]) [.int .i64 0] [_] zeroValue3 runUnderlying67 sizeOf3 (fun At=>?_);refine fw 0 58 1 1 ?_;refine OD.ek (ls:=(take (st.length-(bP ops[i].k).toNat) (st))) (new:=[(jd l ops[i] (fj 0 ops[i].k st) (eW 0 ops[i].k st)).1]) (Sq:=Ch) eC nF ap rfl rfl underlying67 aaQ rfl w7 ot BR (de (A:=[_,_])) ot bf vG iq (fun sV sB Ci Cj=>?_);refine OD.perm (dZ (S1:=[⟨sV,3,sB*1,flatMap cI ((take (st.length-(bP ops[i].k).toNat) (st))++[(jd l ops[i] (fj 0 ops[i].k st) (eW 0 ops[i].k st)).1])⟩]) (A:=[_,_])) ?_;refine an 64 [1,6,7,16,17,18] ?_;refine cm [1,6,7,16,17,18] ?_;refine⟨((i+1),(st.take (st.length-(bP ops[i].k).toNat)++[(jd l ops[i] (fj 0 ops[i].k st) (eW 0 ops[i].k st)).1]),(some ⟨sV,0,none⟩),sB,[⟨sV,3,sB*1,flatMap cI ((take (st.length-(bP ops[i].k).toNat) (st))++[(jd l ops[i] (fj 0 ops[i].k st) (eW 0 ops[i].k st)).1])⟩]),_,cD,(aK (h:=by repeat (first|exact trivial|refine⟨GY,?_⟩))),w4,(by rw[sW];omega),nS,(hinv.trans (SL aa hz)),(bn.cast (bE Ci Cj) (by rfl)),rfl⟩):p:=h
theorem Xc(h:p:=by
  refine pY 13 rfl ?_;refine pY 16 rfl ?_;refine AD.two (i:=14) (j:=17) aA ?_ ?_
  ·refine bj.skip rfl (mD rfl rfl rfl lk jr) rfl ?_;refine AD.two (i:=15) (j:=17) aA ?_ ?_
   ·refine bj.skip rfl (mD rfl rfl rfl lk jr) rfl ?_;refine AD.one (i:=17) aA ?_;refine bj.skip rfl (mD rfl rfl rfl lk jr) rfl ?_;refine pY 18 rfl ?_;refine pY 19 rfl ?_;refine cA 20 rfl vj ?_;refine eH ?_;refine bg [3] ?_;refine af [52] ?_;refine eI ?_;refine af [2] ?_;refine eN ?_;refine⟨vi ?_,rfl⟩;try simp only[uP] at *
    simp only[tT,oe];try simp_all
    try omega
   refine bj.skip rfl (mD rfl rfl rfl lk jr) rfl ?_;refine pY 18 rfl ?_;refine AD.one (i:=15) aA ?_;refine bj.skip rfl (mD rfl rfl rfl lk jr) rfl ?_;refine pY 19 rfl ?_;refine cA 20 rfl vj ?_;refine eH ?_;refine bg [3] ?_;refine af [52] ?_;refine eI ?_;refine af [2] ?_;refine eN ?_;refine⟨vi ?_,rfl⟩;try simp only[uP] at *
   simp only[tT,oe];try simp_all
   try omega
  refine bj.skip rfl (mD rfl rfl rfl lk jr) rfl ?_;refine pY 18 rfl ?_;refine AD.one (i:=14) aA ?_;refine bj.skip rfl (mD rfl rfl rfl lk jr) rfl ?_;refine AD.one (i:=15) aA ?_;refine bj.skip rfl (mD rfl rfl rfl lk jr) rfl ?_;refine pY 19 rfl ?_;refine cA 20 rfl vj ?_;refine eH ?_;refine bg [3] ?_;refine af [52] ?_;refine eI ?_;refine af [2] ?_;refine eN ?_;refine⟨vi ?_,rfl⟩;try simp only[uP] at *
  simp only[tT,oe];try simp_all
  try omega):p:=h
theorem vM(h:p:=by
  refine⟨vi ?_,rfl⟩;first|exact hf.symm|(rw[hf,hx,QT aa qC (by first|assumption|decide)];done)|(rw[hf,eZ,if_pos (by simpa using pZ)];done)|(rw[hf,eZ,if_neg (by simpa using pZ)];done)):p:=h
theorem G8(h:p:=by
  refine⟨vb (EQ fun hp=>?_),rfl⟩;have g1:=hp.eJ;have g2:=hp.hlen;have g3:=hp.xq;have g4:=hp.wS;have g5:=hp.xu;have g6:=hp.leaf;have g7:=fun h=>(hp.node h).1;have g8:=fun h (e:p.keys.length=0)=>(hp.node h).2 (length_eq_zero_iff.1 e);clear hp;first|omega|(rw[ag7 g5] at aM;cases aM;done)|(have:=g6 rj;omega)|(have fL:p.leaf=false:=(by simpa using tZ);have:=g7 fL;omega)|(have fL:p.leaf=false:=(by simpa using tZ);exact g8 fL w4)):p:=h
theorem G9(h:p:=by
  have rH:¬h<bP l[i].k:=(by simpa using gq)
  have aQ:fg h l[i]=0:=(by unfold fg;rw[if_neg dP,if_neg uo,if_neg u4,if_neg j8,if_neg rH])
  refine ie [3,11,12,13] ?_;refine dh (yU l[i].k) ?_;refine bG ?_;refine cm [3,11,12,13] ?_;refine⟨((i+1),(h+(1-bP l[i].k))),_,cD,aK,w4,(by rw[hx];exact QU aa aQ),w4,(by have:=tI l[i].k;omega),rfl⟩):p:=h
theorem Xd(h:p:=by
  have M6:((bu[bu.length-1].k==6) || !(((dU (mi key) (bu.take 2))==0)==nt))=true:=(by first|rw[KQ,Bool.true_or]|rw[gU,Bool.or_true])
  have CY:(gd key (f+1) ops (lo,hi))=sb (fY [bu[(dU gL (bu.take 2)).toNat].v]).1 b1:=(by rw[Vf];unfold vk;rw[show((bu[bu.length-1].k==6)||((dU (mi key) (bu.take 2))==0)!=nt)=true from M6,←jh];rfl)
  refine aD 7 ?_;refine bV 141 (fun ag8 afL=>?_) (fun ag8 afL=>?_)
  ·refine bg [0,11,149] ?_;refine eI ?_;have sX:b1.2.length=0∨compareBytes (fY [bu[(dU gL (bu.take 2)).toNat].v]).1 b1.2<0:=(by first|exact .inl w4|exact .inr (by simpa using gq))
   have sY:(gd key (f+1) ops (lo,hi))=(b1.1,(fY [bu[(dU gL (bu.take 2)).toNat].v]).1):=(by rw[CY];unfold sb;rw[if_pos sX])
   refine dM 2 ?_;refine dQ call95 (I3 (fY [bu[(dU gL (bu.take 2)).toNat].v]).1 w4) ?_;refine aE 2 ?_;refine aP 0 [_,_] sizeOf88 ?_;refine an 155 [] ?_;refine aI [⟨b0,_,_,_⟩] ?_;refine⟨rfl,?_⟩;first|rw[sY]|rw[aW]
  refine aE 5 ?_;refine OD.gM gW rfl rfl rfl call51 (SN (fY [bu[(dU gL (bu.take 2)).toNat].v]).1 b1.2) ⟨ot,ot,trivial⟩ ?_;refine an 155 [0,11,149] ?_;refine au ?_ ?_<;>intro gq lA
  ·have sX:b1.2.length=0∨compareBytes (fY [bu[(dU gL (bu.take 2)).toNat].v]).1 b1.2<0:=(by first|exact .inl w4|exact .inr (by simpa using gq))
   have sY:(gd key (f+1) ops (lo,hi))=(b1.1,(fY [bu[(dU gL (bu.take 2)).toNat].v]).1):=(by rw[CY];unfold sb;rw[if_pos sX])
   refine dM 2 ?_;refine dQ call95 (I3 (fY [bu[(dU gL (bu.take 2)).toNat].v]).1 w4) ?_;refine aE 2 ?_;refine aP 0 [_,_] sizeOf88 ?_;refine an 155 [] ?_;refine aI [⟨b0,_,_,_⟩] ?_;refine⟨rfl,?_⟩;first|rw[sY]|rw[aW]
  have sX:¬(b1.2.length=0∨compareBytes (fY [bu[(dU gL (bu.take 2)).toNat].v]).1 b1.2<0):=(by (have Xe:¬compareBytes (fY [bu[(dU gL (bu.take 2)).toNat].v]).1 b1.2<0:=by simpa using gq);omega)
  have sY:(gd key (f+1) ops (lo,hi))=b1:=(by rw[CY];unfold sb;rw[if_neg sX])
  refine aI [⟨b0,_,_,_⟩] ?_;refine⟨rfl,?_⟩;first|rw[sY]|rw[aW]):p:=h
theorem Xf(h:p:=by
  refine aD 1 ?_;refine OD.wk (Wk.dV (n:=19) (l':=[(0,_),(1,_)]) (S':=S) rfl mQ fk) ?_;refine OD.nil ?_;refine aD 3 ?_;refine OD.wk (Wk.dV (n:=19) (l':=[(0,_),(1,_),(7,_),(8,_)]) (S':=S) rfl mQ fk) ?_;refine OD.nil ?_;refine eA [0,1,7] (fun aU _ (k:Nat) aH=>(k≤ls.length)∧(∀x∈ls.take k,p x=false)∧aH=(⟨19,(8,ae (k:Nat))::aU,S⟩:St)) (fun (k:Nat)=>ls.length-k) 0 ⟨Nat.zero_le _,bf,rfl⟩ ?_;rintro k _ ⟨hk,h0,rfl⟩;refine aD 1 ?_;refine OD.wk (Wk.dV (n:=19) (l':=[(0,_),(1,_),(7,_),(8,_),(9,_)]) (S':=S) rfl mQ fk) ?_;refine OD.nil ?_;refine au ?_ ?_<;>intro aM bD
  ·refine aD 2 ?_;refine OD.wk (Wk.dV (n:=19) (l':=[(0,_),(1,_),(5,_),(7,_),(8,_)]) (S':=S) rfl mQ fk) ?_;refine OD.nil ?_;refine aD 5 ?_;refine OD.kv (f:=g) (args:=[_]) ap rfl rfl (tJ rfl lk) fm (hp (ls[k]'w4) (getElem_mem _)) rfl ⟨tJ rfl lk,trivial⟩ (I4 _) ?_;rintro _ S2 ⟨rfl,iE⟩;rw[iE];clear iE;refine OD.wk (Wk.dV (n:=19) (l':=[(0,_),(1,_),(5,_),(7,_),(8,_),(16,_)]) (S':=S) rfl mQ fk) ?_;refine OD.nil ?_;refine au ?_ ?_<;>intro aY cy
   ·refine aD 2 ?_;refine OD.wk (Wk.dV (n:=19) (l':=[(4,_)]) (S':=S) rfl mQ fk) ?_;refine OD.nil ?_;refine aI S ?_;refine⟨?_,rfl⟩;first|(rw[uL w4 h0 tY])|(rw[we w4 h0])
   refine dM 2 ?_;refine OD.wk (Wk.dV (n:=19) (l':=[(0,_),(1,_),(7,_),(8,_)]) (S':=S) rfl mQ fk) ?_;refine OD.nil ?_;refine⟨k+1,_,cD,aK,w4,(by rw[take_succ_eq_append_getElem w4];intro x hx;rcases mem_append.1 hx with hx|hx;exact h0 x hx;simp only[mem_singleton] at hx;subst hx;assumption),rfl⟩
  refine aD 1 ?_;refine OD.wk (Wk.dV (n:=19) (l':=[(4,_)]) (S':=S) rfl mQ fk) ?_;refine OD.nil ?_;refine aI S ?_;refine⟨?_,rfl⟩;first|(rw[uL w4 h0 tY])|(rw[we w4 h0])
  ):p:=h
theorem M7(h:p:=by
  refine af [2] ?_;refine eN ?_;refine⟨vi ?_,rfl⟩;try simp only[uP] at *
  simp only[tT,oe];try simp_all
  try omega):p:=h
theorem z20(h:p:=by
  refine cJ [1,3] (QV hm hw s.names (by have:=hf.ok.2.2.1;omega) hf.n) ?_;refine af [1,3,36] ?_;refine au ?_ ?_<;>intro cX en
  ·refine af [2] ?_;refine eN ?_;refine⟨vi ?_,rfl⟩;unfold oS ji;simp_all;all_goals (try (intros;(repeat' split)<;>first|rfl|omega))
  refine cJ [1,4] (Ez hm hw s.aj (fun o h=>(hf.w o h).1)) ?_;refine af [1,4,42] ?_;refine au ?_ ?_<;>intro er fq
  ·refine af [2] ?_;refine eN ?_;refine⟨vi ?_,rfl⟩;unfold oS ji;simp_all;all_goals (try (intros;(repeat' split)<;>first|rfl|omega))
  refine af [1,46] ?_;refine au ?_ ?_<;>intro fx gG
  ·refine cJ [2] (tK hm hw s.order hf.o) ?_;refine eN ?_;refine⟨vi ?_,rfl⟩;unfold oS ji;simp_all;all_goals (try (intros;(repeat' split)<;>first|rfl|omega))
  refine af [2] ?_;refine eN ?_;refine⟨vi ?_,rfl⟩;unfold oS ji;simp_all;all_goals (try (intros;(repeat' split)<;>first|rfl|omega))):p:=h
theorem z21(h:p:=by
  refine an 76 [11,12] ?_;refine af [12,74] ?_;refine au ?_ ?_<;>intro vh FY
  ·refine af [8,9] ?_;refine aI [] ?_;refine⟨?_,rfl⟩;unfold jd okF xw;simp_all
  refine af [8,9] ?_;refine aI [] ?_;refine⟨?_,rfl⟩;unfold jd okF xw;simp_all):p:=h
theorem z22(h:p:=by
  refine af [8,9] ?_;refine aI [] ?_;refine⟨?_,rfl⟩;unfold jd okF xw;simp_all):p:=h
theorem M8(h:p:=by
  refine⟨vi ?_,rfl⟩;try simp only[uP] at *
  simp only[tT,oe];try simp_all
  try omega):p:=h
theorem z24(h:p:=by
  refine eN ?_;refine⟨vi ?_,rfl⟩;unfold oS ji;simp_all;all_goals (try (intros;(repeat' split)<;>first|rfl|omega))):p:=h
theorem Xg(h:p:=by
  refine⟨vi ?_,rfl⟩;unfold oS ji;simp_all;all_goals (try (intros;(repeat' split)<;>first|rfl|omega))):p:=h
theorem Xh(h:p:=by
  skip;refine lF 20 [0,2,3,8,9,59,64,69,74] ?_;refine aS 4 ?_ (h:=by exact(cW (mk:=Op.load 3) rfl ot (u5 (g:=Ph.cs) (ls:=ps) (i:=k) (j:=1) y8 isAgg3 aa rfl)));refine aS 4 ?_ (h:=by exact(cW (mk:=Op.load 3) rfl ot (u5 (g:=Ph.cs) (ls:=ps) (i:=k) (j:=2) y8 isAgg3 aa rfl)));refine aS 4 ?_ (h:=by exact(cW (mk:=Op.load 3) rfl ot (u5 (g:=Ph.cs) (ls:=ps) (i:=k) (j:=3) y8 isAgg3 aa rfl)));refine aS 4 ?_ (h:=by exact(cW (mk:=Op.load 75) rfl ot (u5 (g:=Ph.cs) (ls:=ps) (i:=k) (j:=4) y8 isAgg75 aa rfl)));refine jW ?_;refine aE 1 ?_;refine OD.call ap rfl rfl rfl call23 (VC.M9 (Ux hm hw ht hG (⟨2,(ps[k]'aa).t,(ps[k]'aa).a,(ps[k]'aa).b,(ps[k]'aa).row,.mk 0 0 ⟨#[]⟩ [],.mk 0 0 ⟨#[]⟩ [],false⟩:Ph) ⟨(show(-9223372036854775808:Int)≤2∧(2:Int)≤9223372036854775807 by decide),rI.t,rI.a,rI.b,rI.row,Uy,Uy⟩) (args':=[.agg [ae 2,ae (ps[k]'aa).t,ae (ps[k]'aa).a,ae (ps[k]'aa).b,.list 3 ((ps[k]'aa).row.flatMap cV) (ps[k]'aa).row.length,ae 0,ae 0,gb,cf,ae 0,ae 0,gb,cf,cj false]]) ⟨FE ⟨ev,ev,ev,ev,ev,ev,ev,ev,fQ,ev,ev,ev,fQ,ev,trivial⟩,trivial⟩) ⟨ot,trivial⟩ (eO _) ?_;rintro _ _ ⟨s',rfl,rfl,aiA,aiB⟩;have hk9:s'.kind=3:=aiB.trans (show(1:Int)+dS 2 6=3 by decide);have aiC:¬s'.kind=1∧¬s'.kind=2:=(by omega)
  refine aP 0 [_,_,_,_,_,_,_,_,_,_,_,_] sizeOf32 ?_;refine an 88 [0,2,3,8,9] ?_;refine⟨_,aK,s',aiA,aiC,rfl⟩):p:=h
theorem Xi(h:p:=by
  refine bV 103 (fun BU afM=>?_) (fun BU afM=>?_)
  ·refine aE 3 ?_;refine OD.gM gW rfl rfl rfl call51 (wI p.keys[i] p.high) ⟨ot,ot,trivial⟩ ?_;refine an 132 [1,2,73,74,75,110] ?_;refine au ?_ ?_<;>intro cX en
   ·have oq:¬u6 p i:=fun hk=>by obtain⟨k1,k2,k3⟩:=hk aa;unfold bB at k2 k3;first|(rw[k1] at xx;cases xx;done)|(have:=k2 w4;omega)|(have:=k3 (Kq BU);have hx:=of_decide_eq_true cX;omega)
    refine af [4] ?_;refine aI [] ?_;refine⟨vb (EQ fun hp=>?_),rfl⟩;exact oq (SO hp i)
   have hK:u6 p i:=fun _=>⟨by simpa using xx,fun h0=>by unfold bB;first|(exfalso;omega)|(have hx:=of_decide_eq_false zC;omega),fun hne=>by first|exact absurd (len_nil BU) hne|(unfold bB;have hx:=of_decide_eq_false cX;omega)⟩
   refine cm [1,2,73,74,75] ?_;refine⟨(i+1),_,cD,aK,w4,(fun j hj=>by rcases Nat.lt_or_ge j i with h|h;exact xV j h;obtain rfl:j=i:=w4;exact hK),rfl⟩
  refine an 132 [1,2,73,74,75,110] ?_;refine fM ?_;have hK:u6 p i:=fun _=>⟨by simpa using xx,fun h0=>by unfold bB;first|(exfalso;omega)|(have hx:=of_decide_eq_false zC;omega),fun hne=>by first|exact absurd (len_nil BU) hne|(unfold bB;have hx:=of_decide_eq_false cX;omega)⟩
  refine cm [1,2,73,74,75] ?_;refine⟨(i+1),_,cD,aK,w4,(fun j hj=>by rcases Nat.lt_or_ge j i with h|h;exact xV j h;obtain rfl:j=i:=w4;exact hK),rfl⟩):p:=h
theorem z28(h:p:=by
  refine an 69 [4] ?_;refine aI [_] ?_;first|exact gm.cast (gm.mk (g:=cO) (e:=43) (sz:=5) (ls:=[(⟨1,ua n s,⟨#[]⟩⟩:aX)]) (bE (ls:=[(⟨1,ua n s,⟨#[]⟩⟩:aX)]) (Nat.le_refl _) (show 1≤maxLen by decide))) (by unfold mE sc;rw[if_neg w4])|exact gm.cast (gm.mk (g:=cO) (e:=43) (sz:=5) (ls:=[(⟨kk,ua n s,⟨#[]⟩⟩:aX)]) (bE (ls:=[(⟨kk,ua n s,⟨#[]⟩⟩:aX)]) (Nat.le_refl _) (show 1≤maxLen by decide))) (by unfold mE sc;rw[if_neg w4,show kk=1 by omega])|exact gm.cast (gm.mk (g:=cO) (e:=43) (sz:=5) (ls:=[(⟨kk,bJ,sg (j:Int)⟩:aX)]) (bE (ls:=[(⟨kk,bJ,sg (j:Int)⟩:aX)]) (Nat.le_refl _) (show 1≤maxLen by decide))) (by unfold mE wT;rw[if_pos w4,hj,show kk=2 by omega])):p:=h
theorem Xj(h:p:=by
  have sZ:((bu[bu.length-1].k==6)||(((dU (mi key) (bu.take 2))==0)==nt))=true:=(by first|rw[KR,Bool.true_or]|rw[er,Bool.or_true])
  refine cJ [0,8,9,11,13,122] (SN (fY [bu[(dU gL (bu.take 2)).toNat].v]).1 lo) ?_;refine au ?_ ?_<;>intro fx gG
  ·have xW:compareBytes (fY [bu[(dU gL (bu.take 2)).toNat].v]).1 lo>0:=(by simpa using fx)
   have CZ:((fY [bu[(dU gL (bu.take 2)).toNat].v]).1,hi)=(bif (bu[bu.length-1].k==6)||(((dU (mi key) (bu.take 2))==0)==nt) then ou (fY [bu[(dU gL (bu.take 2)).toNat].v]).1 (lo,hi) else (lo,hi)):=(by rw[sZ];show _=ou _ _;unfold ou;rw[if_pos xW])
   refine dM 2 ?_;refine dQ call95 (I3 (fY [bu[(dU gL (bu.take 2)).toNat].v]).1 w4) ?_;refine aE 2 ?_;refine aP 1 [_,_] sizeOf88 ?_;refine an 155 [0,8,9,11,13] ?_;refine⟨_,aK,((fY [bu[(dU gL (bu.take 2)).toNat].v]).1,hi),CZ,(by first|exact ee|exact eS),eB,rfl⟩
  have xW:¬compareBytes (fY [bu[(dU gL (bu.take 2)).toNat].v]).1 lo>0:=(by simpa using fx)
  have CZ:(lo,hi)=(bif (bu[bu.length-1].k==6)||(((dU (mi key) (bu.take 2))==0)==nt) then ou (fY [bu[(dU gL (bu.take 2)).toNat].v]).1 (lo,hi) else (lo,hi)):=(by rw[sZ];show _=ou _ _;unfold ou;rw[if_neg xW])
  refine CD.skip ?_;refine⟨_,aK,(lo,hi),CZ,(by first|exact ee|exact eS),eB,rfl⟩):p:=h
theorem Xk(h:p:=by
  have fG:u7 eV y=false:=(by unfold u7;simp_all[Uz])
  refine CI.skip ?_;refine CI.region M1 rfl ?_;refine bN (dK 1) ?_;refine bN (Ck 0 [_,_]) ?_;refine ei (bW 0 [_]) [.slice none 0 0,.int .i64 0] [_,_] zeroValue90 runUnderlying85 sizeOf90 (fun He=>?_);refine fw 0 40 2 1 ?_;refine OD.ek (ls:=pre) (new:=[y]) (Sq:=So) UA afN ap rfl rfl underlying85 Z2 rfl w7 ot ho (de (A:=[_,_,_])) ot bf GZ GZ (fun vN Gr aiD aiE=>?_);refine OD.perm (dZ (S1:=[⟨vN,90,Gr*2,flatMap cE (pre++[y])⟩]) (A:=[_,_,_])) ?_;refine aP 1 [_] sizeOf85 ?_;refine OD.wk (Wk.dV (n:=43) (l':=[]) (S':=(⟨k8,90,2,[_,_]⟩::⟨b9,85,1,[_]⟩::⟨b5,88,1,[_]⟩::[⟨vN,90,Gr*2,flatMap cE (pre++[y])⟩])) rfl rfl trivial) ?_;refine OD.nil ?_;exact⟨_,Sublist.cons _ (Sublist.refl _),(fun x hx=>by rcases mem_append.1 hx with hx|hx;exact aQ x hx;rw[mem_singleton] at hx;subst hx;exact fG),(some ⟨vN,0,none⟩),Gr,[⟨vN,90,Gr*2,flatMap cE (pre++[y])⟩],(bE aiD aiE),rfl⟩):p:=h
theorem z31(h:p:=by
  refine aD 1 ?_;refine OD.kv (f:=52) (args:=[_]) (all:=[_,_,_]) (Sf:=[_,_]) (R:=[]) ap rfl rfl ot call52 (KS r k n d s ts 0 b2 b3 IH gv iU hs hd1 hd w7) rfl ⟨bI,trivial⟩ (Perm.refl _) ?_;rintro _ _ ⟨Na,⟨apr,aps,rfl,aiF⟩,rfl⟩;refine OD.perm (QW (A:=[_,_])) ?_;refine aE 2 ?_;refine ei (bW 0 [_]) [.int .i64 0,.int .i64 0,.int .i64 0,.string ⟨#[]⟩,.string ⟨#[]⟩] [_,_,_,_,_] zeroValue43 runUnderlying30 sizeOf43 (fun At=>?_);refine fw 0 58 5 1 ?_;refine OD.ek (ls:=(gH r ts n s 0)) (new:=[(⟨kk,bJ,⟨#[]⟩⟩:aX)]) (Sq:=Na) nf Kr ap rfl rfl underlying30 Ii rfl w7 ot aiF (de (A:=[_,_])) ot bf Ad Ad (fun sV sB Ci Cj=>?_);refine OD.perm (dZ (S1:=[⟨sV,43,sB*5,flatMap cO ((gH r ts n s 0)++[(⟨kk,bJ,⟨#[]⟩⟩:aX)])⟩]) (A:=[_,_])) ?_;refine an 69 [4] ?_;refine aI [⟨sV,43,sB*5,flatMap cO ((gH r ts n s 0)++[(⟨kk,bJ,⟨#[]⟩⟩:aX)])⟩] ?_;exact gm.cast (gm.mk (bE Ci Cj)) (by rw[wo,lG,if_neg w4,if_neg w4,if_pos w4];rfl)):p:=h
theorem Hf(h:p:=by
  refine aI [] ?_;refine⟨?_,rfl⟩;unfold iJ;first|(rw[if_pos bD];first|done|rfl)|(rw[if_neg bD,if_pos dP,hj];rcases j with _|_|j<;>first|rfl|omega)|(rw[if_neg bD,if_neg cy,if_pos cN];first|done|rfl)|(rw[if_neg bD,if_neg cy,if_neg cN,if_pos w4,show -v.n=0-v.n by omega];first|done|rfl)|(rw[if_neg bD,if_neg cy,if_neg cN,if_neg w4];first|done|rfl)):p:=h
theorem Xl(h:p:=by
  refine at_ rfl eT ?_;refine cA 14 rfl (dF 1 (h:=by first|exact .l (j:=a+t+1) rfl w4|exact .r (j:=a+t+1) rfl w4)) ?_;refine AD.one (i:=15) aA ?_;refine bj.storeAt (k:=0) (cs':=((Mv P B Q x (t+1)).set (a+t+1) ((Mv P B Q x (t+1))[a+t])).flatMap cI) rfl ap rfl rfl ot rfl rfl ot rfl rfl sizeOf3 rfl G3 (by rw[Nat.zero_add];exact oP eC _ _ w4) iB ?_;refine eH ?_;refine aE 1 ?_;refine OD.storeAt (k:=0) (cs':=(Mv P B Q x (t)).flatMap cI) ap rfl rfl ot rfl rfl ot rfl rfl sizeOf3 rfl G0 (by rw[Nat.zero_add];exact(oP eC ((Mv P B Q x (t+1)).set (a+t+1) ((Mv P B Q x (t+1))[a+t])) ((Mv P B Q x (t+1))[a+t+1]) vE).trans (congrArg (flatMap cI) (afO Nb hP w4 w4))) ?_;refine an 220 [0,14,17] ?_;refine ie [0,14,17] ?_;refine aS 1 ?_ (h:=by exact(dj rfl ot bI (gj (r:=((a+t:Nat):Int)) MR)));refine bG ?_;refine⟨t,_,cD,aK,w4,w4,rfl⟩):p:=h
theorem Xm(h:p:=by
  refine at_ rfl eT ?_;refine cA 14 rfl (dF 1 (h:=by first|exact .l (j:=a+t) rfl w4|exact .r (j:=a+t) rfl w4)) ?_;refine AD.one (i:=15) aA ?_;refine bj.storeAt (k:=0) (cs':=((Mv P B Q x (t)).set (a+t) ((Mv P B Q x (t))[a+t+1])).flatMap cI) rfl ap rfl rfl ot rfl rfl ot rfl rfl sizeOf3 rfl G3 (by rw[Nat.zero_add];exact oP eC _ _ w4) iB ?_;refine eH ?_;refine aE 1 ?_;refine OD.storeAt (k:=0) (cs':=(Mv P B Q x (t+1)).flatMap cI) ap rfl rfl ot rfl rfl ot rfl rfl sizeOf3 rfl G0 (by rw[Nat.zero_add];exact(oP eC ((Mv P B Q x (t)).set (a+t) ((Mv P B Q x (t))[a+t+1])) ((Mv P B Q x (t))[a+t]) vE).trans (congrArg (flatMap cI) (afP Nb hP w4 w4))) ?_;refine an 220 [0,10,13] ?_;refine ie [0,10,13] ?_;refine aS 1 ?_ (h:=by exact(dj rfl ot bI (kr (r:=((a+(t+1):Nat):Int)) (by rw[show(((a+t:Nat):Int)+1)=((a+(t+1):Nat):Int) by omega];exact wrap_i64 w4 w4))));refine bG ?_;refine⟨(t+1),_,cD,aK,w4,rfl⟩):p:=h
theorem Xn(h:p:=by
  refine at_ rfl eT ?_;refine cA 14 rfl (dF 1 (h:=by first|exact .l (j:=j) rfl w4|exact .r (j:=j) rfl w4)) ?_;refine AD.one (i:=15) aA ?_;refine bj.storeAt (k:=0) (cs':=(lH.set j (lH[j-1]'qH)).flatMap cI) rfl ap rfl rfl ot rfl rfl ot rfl rfl sizeOf3 rfl G3 (by rw[Nat.zero_add];exact oP eC _ _ qI) iB ?_;refine eH ?_;refine aE 1 ?_;refine OD.storeAt (k:=0) (cs':=((lH.set j (lH[j-1]'qH)).set (j-1) (lH[j]'qI)).flatMap cI) ap rfl rfl ot rfl rfl ot rfl rfl sizeOf3 rfl G0 (by rw[Nat.zero_add];exact oP eC _ _ (by rw[length_set];exact qH)) ?_;refine an 53 [0,1,2,3,8,9] ?_;refine ie [0,1,2,3,8,9] ?_;refine aS 1 ?_ (h:=by exact(dj rfl ot bI (gj (r:=((j-1:Nat):Int)) MT)));refine bG ?_;refine⟨((j-1),((lH.set j (lH[j-1]'qH)).set (j-1) (lH[j]'qI))),_,cD,aK,(aaR hj hja qI qH (Fc ag9)),(by simpa using zD),rfl⟩):p:=h
theorem Xo(h:p:=by
  refine bV 71 (fun aiG aha=>?_) (fun aiG aha=>?_)
  ·refine bg [0,2,4,6,8,79] ?_;refine au ?_ ?_<;>intro bZ cN
   ·have sC:(bu.length≠3∨(nt=true∧bu[bu.length-1].k≠7)∨(bu[bu.length-1].k≠6∧bu[bu.length-1].k≠7)):=(by first|omega|(simp_all;omega)|simp_all)
    have mL:nh key bu nt (lo,hi)=(lo,hi):=(by unfold nh;rw[uW vl,if_pos sC])
    rw[mL] at aW;refine aI [⟨b0,_,_,_⟩] ?_;refine⟨rfl,?_⟩;first|rw[sY]|rw[aW]
   have sC:¬(bu.length≠3∨(nt=true∧bu[bu.length-1].k≠7)∨(bu[bu.length-1].k≠6∧bu[bu.length-1].k≠7)):=(by first|omega|(simp_all;omega)|simp_all)
   refine CD.skip ?_;refine⟨_,aK,sC,rfl⟩
  refine bg [0,2,4,6,8,79] ?_;refine fM ?_;have sC:¬(bu.length≠3∨(nt=true∧bu[bu.length-1].k≠7)∨(bu[bu.length-1].k≠6∧bu[bu.length-1].k≠7)):=(by first|omega|(simp_all;omega)|simp_all)
  refine CD.skip ?_;refine⟨_,aK,sC,rfl⟩):p:=h
theorem z37(h:p:=by
  have sC:(bu.length≠3∨(nt=true∧bu[bu.length-1].k≠7)∨(bu[bu.length-1].k≠6∧bu[bu.length-1].k≠7)):=(by first|omega|(simp_all;omega)|simp_all)
  have mL:nh key bu nt (lo,hi)=(lo,hi):=(by unfold nh;rw[uW vl,if_pos sC])
  rw[mL] at aW;refine aI [⟨b0,_,_,_⟩] ?_;refine⟨rfl,?_⟩;first|rw[sY]|rw[aW]):p:=h
theorem Xp(h:p:=by
  refine af [0] ?_;refine af [3] ?_;refine af [3,4] ?_;refine au ?_ ?_<;>intro aM bD
  ·refine eI ?_;refine af [2] ?_;refine aI [] ?_;refine⟨vi ?_,rfl⟩;unfold bP;simp_all
  refine cm [3,4] ?_;refine au ?_ ?_<;>intro aY cy
  ·refine af [2] ?_;refine aI [] ?_;refine⟨vi ?_,rfl⟩;unfold bP;simp_all
  refine af [3,7] ?_;refine au ?_ ?_<;>intro bZ cN
  ·refine eI ?_;refine af [2] ?_;refine aI [] ?_;refine⟨vi ?_,rfl⟩;unfold bP;simp_all
  refine cm [7] ?_;refine au ?_ ?_<;>intro cX en
  ·refine af [2] ?_;refine aI [] ?_;refine⟨vi ?_,rfl⟩;unfold bP;simp_all
  refine af [2] ?_;refine aI [] ?_;refine⟨vi ?_,rfl⟩;unfold bP;simp_all
  ):p:=h
theorem Xq(h:p:=by
  have oq:¬u6 p i:=fun hk=>by obtain⟨k1,k2,k3⟩:=hk aa;unfold bB at k2 k3;first|(rw[k1] at xx;cases xx;done)|(have:=k2 w4;omega)|(have:=k3 (Kq BU);have hx:=of_decide_eq_true cX;omega)
  refine af [4] ?_;refine aI [] ?_;refine⟨vb (EQ fun hp=>?_),rfl⟩;exact oq (SO hp i)):p:=h
theorem z40(h:p:=by
  refine aE 1 ?_;first|refine OD.cells (k:=0) (cs':=[.list 1 [] 0,_]) rfl ⟨fQ,ev,trivial⟩ rfl ?_|skip
  first|refine OD.cells (k:=1) (cs':=[.list 1 [] 0,_]) rfl ⟨fQ,ev,trivial⟩ rfl ?_|skip
  first|refine OD.cells (k:=1) (cs':=[.list 5 [] 0]) rfl ⟨fQ,trivial⟩ rfl ?_|skip
  first|refine OD.cells (k:=2) (cs':=[.list 5 [] 0]) rfl ⟨fQ,trivial⟩ rfl ?_|skip
  refine an 46 [4,5,6] ?_;refine aI [] ?_;rw[aW];exact⟨rfl,rfl⟩):p:=h
theorem Xt(h:p:=by
  refine⟨vi ?_,rfl⟩;try simp only[uP] at *
  unfold cn;simp_all;try omega):p:=h
theorem Xu(h:p:=by
  refine aI [⟨b0,_,_,_⟩] ?_;refine⟨rfl,?_⟩;first|rw[sY]|rw[aW]):p:=h
theorem Xv(h:p:=by
  refine at_ rfl eT ?_;refine cA 20 rfl (dF 1) ?_;refine AD.one (i:=21) aA ?_;refine bj.storeAt (k:=0) (cs':=((jX l la lb i).set (la+i) ((jX l la lb i)[lb+i]'hb)).flatMap cI) rfl ap rfl rfl ot rfl rfl ot rfl rfl sizeOf3 rfl G3 (by rw[Nat.zero_add];exact oP eC _ _ ha) iB ?_;refine eH ?_;refine aE 1 ?_;refine OD.storeAt (k:=0) (cs':=(jX l la lb (i+1)).flatMap cI) ap rfl rfl ot rfl rfl ot rfl rfl sizeOf3 rfl G0 (by rw[Nat.zero_add];exact(oP eC ((jX l la lb i).set (la+i) ((jX l la lb i)[lb+i]'hb)) ((jX l la lb i)[la+i]'ha) (by rw[length_set];exact hb)).trans (by rw[jX,sw,mF ha,mF hb])) ?_;refine an 38 [0,1,2,3,10] ?_;refine cm [0,1,2,3,10] ?_;refine⟨(i+1),_,cD,aK,w4,rfl⟩):p:=h
theorem oC(h:p:=by
  refine aI [] ?_;rw[aW];exact⟨rfl,rfl⟩):p:=h
theorem C0(h:p:=by
  refine af [4] ?_;refine aI [] ?_;first|exact⟨rfl,rfl⟩|(refine⟨vi ?_,rfl⟩;unfold pQ;simp_all;done)|(refine⟨vi ?_,rfl⟩;unfold pQ;split<;>(try split)<;>simp_all<;>omega)):p:=h
theorem z46(h:p:=by
  refine an 90 [4] ?_;refine aI [] ?_;refine⟨vb ?_,rfl⟩;unfold kN ji;simp_all;all_goals (try (intros;omega))):p:=h
theorem Xw(h:p:=by
  have uq:p.1∈ts:=(by rw[←hr.keys];exact mem_map_of_mem fN)
  refine⟨uq,?_⟩;rw[hr.at uq];have fh:∀(j:Nat) (p':Oper),k≤j→ops[j]?=some p'→p'.dst≠some p.1:=fun j p' hj Hg iV=>by
   obtain⟨e1,sZ,jh,jO⟩:=Fe (by simpa using Au) Hg iV uq;have:=(wJ hp zE).1 e1 sZ jh;omega
  have h5:=k0.later (q:=p.1) (fun p' Av=>by
   rw[←ju] at Av;obtain⟨j,hj,rfl⟩:=mem_iff_getElem.1 Av;refine fh (k+1+j) _ w4 ?_;rw[←Array.getElem?_toList,←getElem?_drop,getElem?_eq_getElem hj])
  rw[h5,fU,if_neg (fun e1:t=p.1=>fh k o (Nat.le_refl _) zE (by rw[←e1];exact hd))]):p:=h
theorem Nc(h:p:=by
  refine⟨vb ?_,rfl⟩;unfold kN ji;simp_all;all_goals (try (intros;omega))):p:=h
theorem z49(h:p:=by
  skip;have hz:(fX l row ops[i] (fj bJ ops[i].k st) (eW bJ ops[i].k st)).2≠0:=(by simpa using cX)
  have aW:=hinv.trans (SP aa hz);refine aD 2 ?_;refine aP 7 [_,_,_] sizeOf41 ?_;refine an 64 [4,5] ?_;refine aI [⟨br,28,1,[av 3 cV row]⟩,⟨bc,27,1,[av 2 cC l]⟩] ?_;rw[aW];exact⟨rfl,rfl⟩):p:=h
theorem nT(h:p:=by
  refine aI [] ?_;exact⟨rfl,rfl⟩
  ):p:=h
theorem z51(h:p:=by
  refine aI [] ?_;rw[aW];exact⟨rfl,fun h=>by dsimp only at h;omega⟩):p:=h
theorem Xx(h:p:=by
  refine an 69 [4] ?_;refine aI [_] ?_;first|exact gm.cast (gm.mk (g:=cO) (e:=43) (sz:=5) (ls:=[(⟨kk,ua n s,⟨#[]⟩⟩:aX)]) (bE (ls:=[(⟨kk,ua n s,⟨#[]⟩⟩:aX)]) (Nat.le_refl _) (show 1≤maxLen by decide))) (by rw[wo,lG,if_pos w4];unfold sc;rw[show kk=1 by omega])|exact gm.cast (gm.mk (g:=cO) (e:=43) (sz:=5) (ls:=[(⟨kk,bJ,sg (j:Int)⟩:aX)]) (bE (ls:=[(⟨kk,bJ,sg (j:Int)⟩:aX)]) (Nat.le_refl _) (show 1≤maxLen by decide))) (by rw[wo,lG,if_neg w4,if_pos w4];unfold wT;rw[hj,show kk=2 by omega])):p:=h
theorem z53(h:p:=by
  refine bg [2] ?_;refine eN ?_;refine⟨vb ?_,rfl⟩;rw[Bool.eq_iff_iff];simp[wD];first|done|omega):p:=h
theorem Xy(h:p:=by
  refine OD.perm (dZ (A:=[])) ?_;refine an 29 [3,8,9,10] ?_;refine cm [3,8,9,10] ?_;refine⟨((i+1),VM,VN,Xz),_,cD,(aK (h:=by repeat (first|exact trivial|refine⟨(by (repeat (first|exact fD|(apply fV;focus (first|rfl|(simp;done)|(congr 2;omega)|(apply eK;first|exact I5 aa w4|exact Iz aa w4)|(apply eK;rfl)|(apply eK;simp;done)))|(apply fH;focus rfl)));done),?_⟩))),w4,(bn.cast VO (by first|exact I5 aa w4|exact Iz aa w4)),rfl⟩):p:=h
theorem Nd(h:p:=by
  refine⟨vs ?_,rfl⟩;have Aw:k=s.size∨6≤k:=(by omega)
  have Lu:min k s.size=k:=Nat.min_eq_left hk;simp only[length_map,length_take,kM,Lu] at *;unfold sj zi;first|(rw[if_pos w4];done)|(rw[if_neg w4,QX hk Aw h6])):p:=h
theorem XA(h:p:=by
  have hF:¬((bM t.ay s.set)=0∧(fp t.ay (rowAt t ((ax t s.aj).1[k]'aa)) s.bQ).1.k=0):=(by first|exact fun h=>(show ¬(fp t.ay (rowAt t ((ax t s.aj).1[k]'aa)) s.bQ).1.k=0 from by simpa using gU) h.2|exact fun h=>absurd h.1 (by simpa using zC))
  have nS:(iQ t (bM t.ay s.set) s.bQ [] (ax t s.aj).1)=iQ t (bM t.ay s.set) s.bQ (acc++[(fp t.ay (rowAt t ((ax t s.aj).1[k]'aa)) s.bQ).1]) ((ax t s.aj).1.drop (k+1)):=(by rw[Ax,ju,iQ,if_neg hE,if_neg hF])
  refine CD.skip ?_;refine⟨_,aK,nS,rfl⟩):p:=h
theorem Hh(h:p:=by
  skip;obtain⟨hz,_⟩:=xX aM;obtain rfl:=length_eq_zero_iff.1 hz;refine af [2] ?_;refine aI [] ?_;exact⟨none,0,rfl,.inl ⟨rfl,rfl,rfl,rfl,rfl⟩⟩):p:=h
theorem C1(h:p:=by
  refine aP 0 [_,_,_] sizeOf41 ?_;refine an 35 [4,5] ?_;refine aI [] ?_;refine⟨?_,rfl⟩;unfold uc;simp_all[bJ]):p:=h
theorem z59(h:p:=by
  refine aI [⟨br,28,1,[av 3 cV row]⟩,⟨bc,27,1,[av 2 cC l]⟩] ?_;rw[aW];exact⟨rfl,rfl⟩):p:=h
theorem XB(h:p:=by
  skip;have hz:(jd l ops[i] (fj 0 ops[i].k st) (eW 0 ops[i].k st)).2≠0:=(by simpa using cX)
  have aW:=hinv.trans (SP aa hz);refine af [4,5] ?_;refine aI [⟨b2,27,1,[av 2 cC l]⟩] ?_;rw[aW];exact⟨rfl,rfl⟩):p:=h
theorem Nf(h:p:=by
  refine af [2] ?_;refine aI [] ?_;refine⟨vi ?_,rfl⟩;try simp only[Pe] at *
  simp only[cY];first|(rw[if_pos w4];done)|(rw[if_neg w4];cases h1:oe s<;>cases h2:uX.any (ji s)<;>simp_all)):p:=h
theorem Hi(h:p:=by
  refine aI _ ?_;first|exact⟨rfl,_,KT,rfl⟩|exact⟨rfl,_,Ff qD oD XC,rfl⟩|exact⟨rfl,_,Ff qD oD (PM qD oD w4),rfl⟩):p:=h
theorem xY(h:p:=by
  refine af [2] ?_;refine eN ?_;rw[aW];exact⟨rfl,rfl⟩):p:=h
theorem XD(h:p:=by
  have hC:0≤p.kids[i]∧(p.leaf=false→p.kids[i]<many):=⟨by have hx:=of_decide_eq_false KU;omega,fun hl=>by first|(rw[hl] at FZ;cases FZ;done)|(have hx:=of_decide_eq_false fx;omega)⟩
  refine cm [1,2,113,114,115] ?_;refine⟨(i+1),_,cD,aK,w4,(fun j hj hl=>by rcases Nat.lt_or_ge j i with h|h;exact j7 j h hl;obtain rfl:j=i:=w4;exact hC),rfl⟩):p:=h
theorem XE(h:p:=by
  have eZ:j=a∨Rc cF Lt (lH[j-1]'qH) (lH[j]'qI):=(by first|exact .inr (FF ha (aeh hj (by have q:=of_decide_eq_true qE;omega) qI qH hq) w4)|exact .inl (by have q:=of_decide_eq_false qE;omega))
  refine cm [0,1,2,3,8] ?_;refine⟨((i+1),lH),_,cD,aK,(fun _=>acn ht hj w4 w4 eZ),w4,w4,w4,zD,rfl⟩):p:=h
theorem XF(h:p:=by
  refine aP 0 [_,_,_] sizeOf137 ?_;refine an 14 [2] ?_;refine aI [] ?_;refine⟨?_,rfl⟩;unfold zF;first|(rw[if_neg l7,if_neg xZ,show((j:Nat):Int).toNat=j from rfl,getD_eq_getElem?_getD,getElem?_eq_getElem hj];rfl)|(rw[if_pos xR];rfl)|(rw[if_neg xR,if_pos vI];rfl)):p:=h
theorem ur(h:p:=by
  refine aI [] ?_;rw[aW];exact⟨rfl,rfl⟩
  ):p:=h
theorem XG(h:p:=by
  have oq:vs[i].k≠l[i].k∧(i=0∨vs[i].k≠0):=(by first|(simp at *;omega)|(constructor<;>simp_all<;>omega))
  have hf:jL i l[i] vs[i]=4:=(by unfold jL;rw[if_neg hz,if_pos oq])
  have aW:dO l vs=4:=(by rw[hinv,QY Lv aa (by rw[hf];decide),hf])
  refine af [4] ?_;refine eN ?_;rw[aW];exact⟨rfl,rfl⟩):p:=h
theorem XH(h:p:=by
  have oq:¬(0≤p.kids[i]∧(p.leaf=false→p.kids[i]<many)):=fun hk=>by obtain⟨k1,k2⟩:=hk;first|(have hx:=of_decide_eq_true KU;omega)|(have:=k2 (by simpa using FZ);have hx:=of_decide_eq_true fx;omega)
  refine af [4] ?_;refine eN ?_;refine⟨vb (EQ fun hp=>?_),rfl⟩;exact oq (aei hp aa)):p:=h
theorem z70(h:p:=by
  refine an 70 [1,2,11,35,36,37] ?_;refine cm [1,2,11,35,36,37] ?_;refine⟨((k+1),(acc++[(L[k]'aa).2]),(some ⟨qJ,0,none⟩),rm,[⟨qJ,3,rm*1,flatMap Tw.cI ((acc)++[(L[k]'aa).2])⟩]),_,cD,aK,w4,G4,nS,(bn.cast (bE Gs Gt) j6),rfl⟩):p:=h
theorem XI(h:p:=by
  have oh:¬(vs[i].k≠l[i].k∧(i=0∨vs[i].k≠0)):=(by first|(simp_all;done)|omega|(simp at *;omega))
  have hf:jL i l[i] vs[i]=0:=(by unfold jL;rw[if_neg hz,if_neg oh])
  have jm:=hinv.trans (aaS Lv aa hf);refine cm [0,19,20,21] ?_;refine⟨(i+1),_,cD,aK,w4,jm,rfl⟩):p:=h
theorem z72(h:p:=by
  refine cm [1,3,33,34,35] ?_;refine⟨(i+1),_,cD,(aK (h:=by repeat (first|exact trivial|refine⟨(by (repeat (first|exact fD|(apply fV;focus (first|rfl|(rw[ER,if_neg zG];rfl)|(rw[ER,if_pos zG];rfl)|(simp;done)|(congr 2;omega)))|(apply fH;focus rfl)));done),?_⟩))),w4,rfl⟩):p:=h
theorem Hj(h:p:=by
  refine OD.perm (dZ (A:=[])) ?_;refine an 8 [2] ?_;refine aI S7 ?_;exact⟨_,_,rfl,p8⟩
  ):p:=h
theorem XJ(h:p:=by
  refine eH ?_;refine OD.gM gW rfl rfl rfl call29 (fO) ⟨ot,ot,trivial⟩ ?_;refine an 31 [1,10,11,12,29] ?_;refine au ?_ ?_<;>intro bZ cN
  ·exact absurd bZ (by (simp at bZ;omega))
  refine cm [1,10,11,12] ?_;refine⟨(i+1),_,cD,aK,w4,rfl⟩):p:=h
theorem z75(h:p:=by
  refine aI [] ?_;rw[eZ];exact⟨rfl,rfl⟩):p:=h
theorem z76(h:p:=by
  skip;refine bg [1,33] ?_;refine eI ?_;refine af [2] ?_;refine eN ?_;exact⟨vi (O4 w4).symm,rfl⟩):p:=h
theorem Ng(h:p:=by
  refine aP 0 [_,_,_] sizeOf41 ?_;refine an 29 [2] ?_;refine aI [] ?_;refine⟨?_,rfl⟩;unfold pF bJ;simp_all):p:=h
theorem XK(h:p:=by
  have hC:¬((ew t.ay s.bQ).1≠(t.ay.getD (bM t.ay s.set).toNat ⟨⟨#[]⟩,0⟩).k∧(ew t.ay s.bQ).1≠0):=(by rw[j9];first|exact fun h=>h.2 (by simpa using bZ)|exact fun h=>h.1 zj)
  refine CD.skip ?_;refine⟨_,aK,hC,rfl⟩):p:=h
theorem XL(h:p:=by
  have mR:¬(0≤s.ij∧s.ij<lz.length):=(by first|exact fun h=>lA h.2|(intro h;omega))
  refine CD.skip ?_;refine⟨_,aK,lz,(by unfold wK vm;rw[←mS,Int.toNat_natCast,←hM,←VQ,if_neg mR]),VR,w4,rfl⟩):p:=h
theorem z80(h:p:=by
  refine an 135 [4,5] ?_;refine aI [] ?_;rw[aW];exact⟨[],none,0,[],rfl,iv,(fun o h=>by cases h),rfl,rfl⟩):p:=h
theorem XM(h:p:=by
  have ahb:¬(f.length≤100∧eV.length≤100):=(by simp_all;omega)
  refine af [6,7] ?_;refine CD.wk (Wk.tL (t:=6) (sz:=2) lk) ?_;refine Nh ?_;exact⟨by unfold wU;rw[if_pos hz,if_neg ahb];rfl,rfl⟩):p:=h
theorem C2(h:p:=by
  refine aI [] ?_;rw[eZ];exact⟨rfl,rfl⟩
  ):p:=h
theorem XN(h:p:=by
  have a1:v.s.data.size=0:=sv;have a2:w.s.data.size=0:=sw;have e1:v.s=⟨v.s.data⟩:=rfl;have e2:w.s=⟨w.s.data⟩:=rfl;rw[e1,e2,Array.eq_empty_of_size_eq_zero a1,Array.eq_empty_of_size_eq_zero a2]):p:=h
theorem XO(h:p:=by
  unfold cC;refine bY ?_;refine OD.box (ds:=[_,_]) ap rfl rfl ot rfl rfl (fun b2=>?_);refine an 8 [1,2] ?_;refine af [3] ?_;refine aI [⟨b,9,1,[bw nm]⟩] ?_;exact⟨rfl,rfl⟩
  ):p:=h
theorem z85(h:p:=by
  have iA:¬((iN a b i).k≠1∧(iN a b i).k≠0):=(by simp_all)
  refine cm [2,3,4,6,14,15] ?_;refine⟨(i+1),_,cD,aK,w4,(EP (p:=fun v=>¬(v.k≠1∧v.k≠0)) fh iA),rfl⟩):p:=h
theorem XP(h:p:=by
  unfold fu cmpL gh gh gh gh;rcases rW a.k b.k with ⟨h1,h2⟩|⟨h1,h2⟩|⟨h1,h2⟩<;>rcases rW a.n b.n with ⟨k1,k2⟩|⟨k1,k2⟩|⟨k1,k2⟩<;>simp only[h1,k1]<;>(repeat' split)<;>omega):p:=h
theorem z87(h:p:=by
  refine bG ?_;refine cZ [6,7] ?_;refine aS 6 ?_ (h:=by exact(dj rfl ot ot (ES underlying4)));refine bG ?_;refine aI [] ?_;refine⟨?_,rfl⟩;unfold pE;simp_all):p:=h
theorem XQ(h:p:=by
  have ahc:¬((iN a b i).k=1∧(iN a b i).n=d):=(by simp_all)
  refine cm [2,3,4,6,30,31] ?_;refine⟨(i+1),_,cD,aK,w4,(EP (p:=fun v=>¬(v.k=1∧v.n=d)) KV ahc),rfl⟩):p:=h
theorem XR(h:p:=by refine⟨_,(aK (h:=by repeat (first|exact trivial|refine⟨(by (repeat (first|exact fD|(apply fV;focus (first|rfl|(rw[dG];done)|(simp;done)))|(apply fH;focus rfl)));done),?_⟩))),rfl⟩):p:=h
theorem XS(h:p:=by refine⟨_,(aK (h:=by repeat (first|exact trivial|refine⟨(by (repeat (first|exact fD|(apply fV;focus (first|rfl|(rw[j9];done)|(simp;done)))|(apply fH;focus rfl)));done),?_⟩))),rfl⟩):p:=h
theorem z91(h:p:=by
  skip;obtain⟨hz,_⟩:=xX aM;obtain rfl:=length_eq_zero_iff.1 hz;refine af [2] ?_;refine CD.wk (Wk.tL (t:=2) (sz:=1) lk) ?_;refine aI [] ?_;exact⟨rfl,rfl⟩):p:=h
theorem XT(h:p:=by
  refine af [4] ?_;refine aI [] ?_;first|exact⟨vi (ET hn).symm,rfl⟩|exact⟨vi (EA hz vI).symm,rfl⟩|exact⟨vi (JF hz vI).symm,rfl⟩):p:=h
theorem z93(h:p:=by
  rw[←ju] at fN;obtain⟨j,hj,rfl⟩:=mem_iff_getElem.1 fN;refine jv (k+1+j) _ w4 ?_;rw[←Array.getElem?_toList,←getElem?_drop,getElem?_eq_getElem hj]):p:=h
theorem XU(h:p:=by
  refine af [4] ?_;refine eN ?_;refine⟨vi ?_,rfl⟩;unfold aL;first|(rw[Cl] at XV;cases fL:p.leaf<;>simp_all;done)|(simp_all;done)|(simp_all;omega)):p:=h
theorem Ni(h:p:=by
  refine af [2,3] ?_;refine aI [] ?_;first|(rw[aW];exact⟨none,0,rfl,iv⟩)):p:=h
theorem Nj(h:p:=by
  refine af [2] ?_;refine aI [] ?_;exact⟨by first|rw[aW]|rw[aW];rfl,rfl⟩):p:=h
theorem XW(h:p:=by
  have g6:=po.leaf;have g7:=fun h=>(po.node h).1;cases fL:(t.ag[i]'aa).leaf with
  | true=>have:=g6 fL;omega
  | false=>have:=g7 fL;omega):p:=h
theorem XX(h:p:=by
  refine cm [0,1,5] ?_;refine⟨(i+1),_,cD,aK,w4,(by rw[take_succ_eq_append_getElem aa,take_succ_eq_append_getElem sD,Hl,XY]),rfl⟩):p:=h
theorem XZ(h:p:=by
  rw[map_set,hn];have:l[i].nm=(l.map aO.nm)[i]'(by rw[length_map];exact hi):=(by rw[getElem_map])
  rw[this,set_getElem_self]):p:=h
theorem VS(h:p:=by
  refine bG ?_;refine bg [11,12,13,14,15,16,17,18,19,20,21] ?_;refine⟨_,aK,_,(by rw[hb];first|rfl|(rw[Nk,Cm];rfl)),rfl⟩):p:=h
theorem VT(h:p:=by refine⟨((((i+j)/2)+1),j),_,cD,aK,w4,w4,w4,(.inr ⟨by omega,by omega,by exact xM⟩),fB,rfl⟩):p:=h
theorem VU(h:p:=by
  obtain⟨t',h3,h4⟩:=(wJ hp Hg).2;rw[iV] at h3;obtain rfl:=Option.some.inj h3;exact h4 k o hj zE hd):p:=h
theorem VV(h:p:=by
  unfold mj;rw[mk_data,getD_eq_getElem?_getD,getElem?_eq_getElem w4];exact getElem_mem _):p:=h
theorem VW(h:p:=by
  rw[pR] at oZ;rcases mem_cons.1 oZ with rfl|oZ
  ·exact .inl (tu _ _)
  exact m.UB x oZ):p:=h
theorem z105(h:p:=by
  have eZ:dO l=1:=if_pos w4;refine af [2] ?_;refine eN ?_;rw[eZ];exact⟨rfl,rfl⟩):p:=h
theorem VX(h:p:=by
  refine aI [⟨br,28,1,[av 3 cV row]⟩,⟨bc,27,1,[av 2 cC l]⟩] ?_;rw[aW];exact⟨rfl,rfl⟩
  ):p:=h
theorem z107(h:p:=by refine⟨(i,((i+j)/2)),_,cD,aK,w4,w4,w4,dP,(.inr ⟨by omega,by omega,Ay⟩),rfl⟩):p:=h
theorem VY(h:p:=by
  refine CD.skip ?_;have ahd:l1=l:=aco Lw w4;rw[ahd];refine⟨_,aK,rfl⟩):p:=h
theorem z109(h:p:=by
  refine cJ [0,4,5,6,41] (nu) ?_;refine au ?_ ?_<;>intro fx gG
  ·have aW:iz k a b=(bJ,0):=(by unfold iz;rw[if_neg (by simp[oA]),if_neg w4,if_neg w4,if_pos w4,if_pos fx])
   refine aD 1 ?_;exact z7
  refine af [0,4,5,6,47] ?_;refine au ?_ ?_<;>intro gU kU
  ·have aW:iz k a b=(bJ,4):=(by unfold iz;rw[if_neg (by simp[oA]),if_neg w4,if_neg w4,if_pos w4,if_neg (by rw[fx];simp),if_pos (by simpa using gU)])
   refine aD 1 ?_;exact z7
  have aW:iz k a b=(qv ((fu a b==0&&k==6)||(decide (fu a b<0)&&k==7)),0):=(by unfold iz;rw[if_neg (by simp[oA]),if_neg w4,if_neg w4,if_pos w4,if_neg (by rw[fx];simp),if_neg (by simpa using gU)])
  refine cJ [0,6,9] (fb) ?_;refine aD 3 ?_;refine bV 54 (fun zH zj=>?_) (fun zH zj=>?_)
  ·refine aE 4 ?_;refine bV 58 (fun aiH ahe=>?_) (fun aiH ahe=>?_)
   ·refine x4 3 ?_;refine aE 4 ?_;refine dQ call100 (qU _) ?_;exact z7
   refine aE 3 ?_;refine bV 61 (fun Lx KW=>?_) (fun Lx KW=>?_)
   ·refine aE 4 ?_;refine dQ call100 (qU _) ?_;exact z7
   refine aE 4 ?_;refine dQ call100 (qU _) ?_;exact z7
  refine aE 7 ?_;refine bV 61 (fun Lx KW=>?_) (fun Lx KW=>?_)
  ·refine aE 4 ?_;refine dQ call100 (qU _) ?_;exact z7
  refine aE 4 ?_;refine dQ call100 (qU _) ?_;exact z7):p:=h
theorem VZ(h:p:=by
  have u4:¬((l[i].k != 1 && !(zeroV l[i].v))||(l[i].k != 2 && !(l[i].nm.toList==(⟨#[]⟩:ByteArray).toList)))=true:=(by unfold zeroV;simp_all)
  refine af [3,5,11,12,13,52] ?_;refine au ?_ ?_<;>intro fx gG
  ·refine cJ [3,5,7,11,12,13] (tK hm hw l[i].nm (hs _ (getElem_mem aa))) ?_;refine af [3,5,7,11,12,13,57] ?_;refine au ?_ ?_<;>intro gU kU
   ·have oE:cY l[i].nm≠0:=(by simpa using gU)
    have qC:fg h l[i]=cY l[i].nm:=(by unfold fg;rw[if_neg dP,if_neg uo,if_neg u4,if_pos ⟨by simpa using fx,oE⟩])
    refine af [2] ?_;refine aI [] ?_;exact vM
   have j8:¬(l[i].k=2∧cY l[i].nm≠0):=(by simp at gU;simp[gU])
   refine cJ [3,5,11,12,13,63] (yU l[i].k) ?_;refine au ?_ ?_<;>intro gq lA
   ·have rH:h<bP l[i].k:=(by simpa using gq)
    have qC:fg h l[i]=7:=(by unfold fg;rw[if_neg dP,if_neg uo,if_neg u4,if_neg j8,if_pos rH])
    refine af [2] ?_;refine aI [] ?_;exact vM
   exact G9
  have j8:¬(l[i].k=2∧cY l[i].nm≠0):=(by simp at fx;simp[fx])
  refine cJ [3,5,11,12,13,63] (yU l[i].k) ?_;refine au ?_ ?_<;>intro gq lA
  ·have rH:h<bP l[i].k:=(by simpa using gq)
   have qC:fg h l[i]=7:=(by unfold fg;rw[if_neg dP,if_neg uo,if_neg u4,if_neg j8,if_pos rH])
   refine af [2] ?_;refine aI [] ?_;exact vM
  exact G9):p:=h
theorem V0(h:p:=by
  have u4:¬((l[i].k != 1 && !(zeroV l[i].v))||(l[i].k != 2 && !(l[i].nm.toList==(⟨#[]⟩:ByteArray).toList)))=true:=(by unfold zeroV;simp_all)
  refine af [3,5,11,12,13,52] ?_;refine au ?_ ?_<;>intro fx gG
  ·refine cJ [3,5,7,11,12,13] (tK hm hw l[i].nm (hs _ (getElem_mem aa))) ?_;refine af [3,5,7,11,12,13,57] ?_;refine au ?_ ?_<;>intro gU kU
   ·have oE:cY l[i].nm≠0:=(by simpa using gU)
    have qC:fg h l[i]=cY l[i].nm:=(by unfold fg;rw[if_neg dP,if_neg uo,if_neg u4,if_pos ⟨by simpa using fx,oE⟩])
    refine af [2] ?_;refine eN ?_;exact vM
   have j8:¬(l[i].k=2∧cY l[i].nm≠0):=(by simp at gU;simp[gU])
   refine cJ [3,5,11,12,13,63] (yU l[i].k) ?_;refine au ?_ ?_<;>intro gq lA
   ·have rH:h<bP l[i].k:=(by simpa using gq)
    have qC:fg h l[i]=7:=(by unfold fg;rw[if_neg dP,if_neg uo,if_neg u4,if_neg j8,if_pos rH])
    refine af [2] ?_;refine eN ?_;exact vM
   exact G9
  have j8:¬(l[i].k=2∧cY l[i].nm≠0):=(by simp at fx;simp[fx])
  refine cJ [3,5,11,12,13,63] (yU l[i].k) ?_;refine au ?_ ?_<;>intro gq lA
  ·have rH:h<bP l[i].k:=(by simpa using gq)
   have qC:fg h l[i]=7:=(by unfold fg;rw[if_neg dP,if_neg uo,if_neg u4,if_neg j8,if_pos rH])
   refine af [2] ?_;refine eN ?_;exact vM
  exact G9):p:=h
theorem V1(h:p:=by
  refine cA 8 rfl (dF 1 (h:=by first|exact .l (j:=tj) rfl rF|exact .r (j:=tj) rfl rF)) ?_;refine AD.two (i:=9) (j:=11) aA ?_ ?_
  ·refine at_ rfl (cW (mk:=Op.load 9) rfl ot (by exact qu (g:=cS) (ls:=eE) (i:=tj) (d:=bw tn) jl isAgg9 rF (by show some (D.v (.string (eE[tj]'rF)))=some (D.v (.string tn));rw[VL]))) ?_;refine cA 10 rfl (nE (pl:=[(0,_),(1,_),(9,_)]) (ds:=[_,_,_,_,_,_,_,_,_,_,_,_]) rfl zeroValue32 runUnderlying32 OZ ⟨rfl,ot,rfl,ot,rfl,bI,trivial⟩ rfl rfl) ?_;refine AD.one (i:=11) aA ?_;refine bj.alloc (ds:=[_,_,_,_,_,_,_,_,_,_,_,_]) rfl ap rfl rfl zeroValue32 rfl (fun b3=>?_);exact z10
  refine bj.alloc (ds:=[_,_,_,_,_,_,_,_,_,_,_,_]) rfl ap rfl rfl zeroValue32 rfl (fun b3=>?_);exact z4):p:=h
theorem Ly(h:p:=by
  refine dM 2 ?_;refine OD.kv (f:=134) (args:=[_,_]) (all:=[_,_]) (Sf:=[]) ap rfl rfl ot call134 (zk a 2) rfl ⟨ot,bI,trivial⟩ (eO _) ?_;rintro _ _ ⟨rfl,rfl⟩;refine aE 1 ?_;refine bV 68 (fun aiI ahf=>?_) (fun aiI ahf=>?_)
  ·refine aE 2 ?_;refine OD.kv (f:=134) (args:=[_,_]) (all:=[_,_]) (Sf:=[]) gW rfl rfl ot call134 (zk b 2) rfl ⟨ot,bI,trivial⟩ (eO _) ?_;rintro _ _ ⟨rfl,rfl⟩;exact z21
  refine an 76 [11,12] ?_;refine af [12,74] ?_;refine eI ?_;exact z22):p:=h
theorem Gu(h:p:=by
  refine AD.one (i:=7) aA ?_;refine jJ call21 (Gw) ?_;refine cA 8 rfl (dF 1 (h:=by first|exact .l (j:=tj) rfl rF|exact .r (j:=tj) rfl rF)) ?_;exact z4):p:=h
theorem V2(h:p:=by
  refine aD 4 ?_;refine OD.kv (f:=98) (args:=[_,_,_]) (all:=[_,_,_,_]) (Sf:=[⟨b2,27,1,[av 2 cC l]⟩]) ap rfl rfl ot call98 (PN l hl ops[i] _ _ _ _ ha hb b2) rfl ⟨ot,ot,ot,trivial⟩ (ko (k:=1) rfl) ?_;rintro _ _ ⟨rfl,rfl⟩;refine an 64 [1,6,7,13,14,15,16,17,18] ?_;refine af [1,6,7,13,14,15,16,17,18,51] ?_;refine au ?_ ?_<;>intro cX en
  ·exact XB
  have hz:(jd l ops[i] (fj 0 ops[i].k st) (eW 0 ops[i].k st)).2=0:=(by simpa using cX)
  refine CD.skip ?_;refine CD.vm (k:=(st.length-(bP ops[i].k).toNat)) (ls:=(st)) (Sq:=[⟨bh,3,ke*1,flatMap cI st⟩]) eC w4 (bE (g:=cI) (ls:=st) xp wR) (de (A:=[_,_])) (fun Ch BR=>?_);exact z12):p:=h
theorem z116(h:p:=by
  refine cA 8 rfl (dF 1 (h:=by first|exact .l (j:=tj) rfl rF|exact .r (j:=tj) rfl rF)) ?_;exact z4):p:=h
theorem z117(h:p:=by
  rintro _ _ ⟨rfl,rfl⟩;refine aE 3 ?_;refine OD.alloc (ds:=[_,_,_]) ap rfl rfl zeroValue41 rfl (fun Az=>?_);refine aP 0 [_,_,_] sizeOf41 ?_;refine an 64 [1,4,6,7,13,14,15,16,17,18] ?_;refine af [1,4,6,7,13,14,15,16,17,18,51] ?_;refine au ?_ ?_<;>intro cX en
  ·exact z49
  have hz:(fX l row ops[i] (fj bJ ops[i].k st) (eW bJ ops[i].k st)).2=0:=(by simpa using cX)
  refine CD.skip ?_;refine CD.vm (k:=(st.length-(bP ops[i].k).toNat)) (ls:=(st)) (Sq:=[⟨bh,41,ke*3,flatMap cV st⟩]) fi w4 (bE (g:=cV) (ls:=st) xp wR) (de (A:=[_,_,_,_,_,_,_,_])) (fun Ch BR=>?_);exact z5):p:=h
theorem V3(h:p:=by
  refine CD.seq ?_;refine uu 11 10 [5,7,31] ?_;refine dh (jP G n 40 gv iU w7) ?_;refine dh (QZ ⟨n,dS n 40-20,s⟩ fS) ?_;refine rJ ?_;refine jW ?_;refine⟨rfl,fun b7=>?_⟩;refine aP 0 [_,_,_] sizeOf41 ?_;refine an 69 [5,7] ?_;refine aD 2 ?_;refine dQ call16 (BK (pF ⟨n,dS n 40-20,s⟩).s 4 w4) ?_;refine aE 1 ?_;refine aP 0 [_,_,_] sizeOf9 ?_;refine an 69 [5,7] ?_;refine aD 3 ?_;refine ei (bW 0 [_]) [.int .i64 0,.int .i64 0,.int .i64 0,.string ⟨#[]⟩,.string ⟨#[]⟩] [_,_,_,_,_] zeroValue43 runUnderlying30 sizeOf43 (fun C3=>?_);exact z28):p:=h
theorem z119(h:p:=by
  refine dM 2 ?_;refine OD.kv (f:=134) (args:=[_,_]) (all:=[_,_]) (Sf:=[]) ap rfl rfl ot call134 (zk a 1) rfl ⟨ot,bI,trivial⟩ (eO _) ?_;rintro _ _ ⟨rfl,rfl⟩;refine aE 1 ?_;refine bV 40 (fun Lz KX=>?_) (fun Lz KX=>?_)
  ·refine aE 2 ?_;refine OD.kv (f:=134) (args:=[_,_]) (all:=[_,_]) (Sf:=[]) gW rfl rfl ot call134 (zk b 1) rfl ⟨ot,bI,trivial⟩ (eO _) ?_;rintro _ _ ⟨rfl,rfl⟩;exact z21
  refine an 76 [11,12] ?_;refine af [12,74] ?_;refine eI ?_;exact z22):p:=h
theorem V4(h:p:=by
  refine AD.one (i:=10) aA ?_;refine jJ call95 (j3 (t.ag[i]'aa).high w4) ?_;refine cA 13 rfl (nE (pl:=[(0,_),(1,_),(2,_),(3,_),(4,_)]) (ds:=[_,_,_,_,_]) rfl zeroValue153 runUnderlying153 OR ⟨rfl,ot,rfl,ot,rfl,ot,rfl,ot,rfl,ot,trivial⟩ rfl rfl) ?_;refine AD.one (i:=14) aA ?_;refine js (bW 0 [_]) [.bool false,.slice none 0 0,.slice none 0 0,.slice none 0 0,.int .i64 0] [_,_,_,_,_] zeroValue153 runUnderlying49 sizeOf153 (fun AA=>?_);refine jt 0 46 5 1 ?_;exact M5):p:=h
theorem LA(h:p:=by
  refine eH ?_;refine bg [3] ?_;refine af [52] ?_;refine au ?_ ?_<;>intro fx gG
  ·exact M7
  exact M7):p:=h
theorem Gx(h:p:=by
  refine af [4,5,6] ?_;refine CD.wk (Wk.tL (t:=4) (sz:=1) lk) ?_;refine CD.wk (Wk.tL (t:=5) (sz:=1) lk) ?_;exact oC):p:=h
theorem V5(h:p:=by
  refine dM 3 ?_;refine OD.kv (f:=134) (args:=[_,_]) (all:=[_,_]) (Sf:=[]) ap rfl rfl ot call134 (zk a b) rfl ⟨ot,ot,trivial⟩ (eO _) ?_;rintro _ _ ⟨rfl,rfl⟩;refine aE 1 ?_;refine bV 57 (fun ud BV=>?_) (fun ud BV=>?_)
  ·refine an 76 [11,12] ?_;refine af [12,74] ?_;refine fM ?_;exact z22
  exact z21):p:=h
theorem z124(h:p:=by
  refine af [2] ?_;refine aI [] ?_;exact vM):p:=h
theorem Gy(h:p:=by
  refine af [2] ?_;refine eN ?_;exact vM):p:=h
theorem V6(h:p:=by
  refine mv 7 rfl ?_;refine mv 8 rfl ?_;refine mv 9 rfl ?_;refine dD.later rfl ?_;refine AD.one (i:=10) aA ?_;refine bj.skip rfl (mD rfl rfl rfl lk jr) rfl ?_;refine cA 11 rfl vj ?_;refine cA 12 rfl bp ?_;exact Xc):p:=h
theorem z127(h:p:=by
  skip;refine bg [1,2,39] ?_;refine eI ?_;refine af [4] ?_;refine eN ?_;exact G8):p:=h
theorem V7(h:p:=by
  have bZ:(dU (mi key) (bu.take 2))<0∨(dU gL (bu.take 2))<0:=(by first|omega|(simp_all;omega)|simp_all)
  have mL:nh key bu nt (lo,hi)=(lo,hi):=(by unfold nh;rw[uW vl,if_neg sC,if_pos bZ])
  rw[mL] at aW;exact Xu):p:=h
theorem xy(h:p:=by
  refine af [2] ?_;refine eN ?_;exact Xt):p:=h
theorem z130(h:p:=by
  refine bY ?_;refine OD.alloc (ds:=[_,_,_]) ap rfl rfl zeroValue137 rfl (fun b2=>?_);refine an 5 [0,2] ?_;refine aD 2 ?_;refine aP 0 [_,_,_] sizeOf137 ?_;refine an 5 [2] ?_;exact nT):p:=h
theorem z131(h:p:=by
  refine af [52] ?_;refine au ?_ ?_<;>intro fx gG
  ·refine af [2] ?_;refine aI [] ?_;exact M8
  refine af [2] ?_;refine aI [] ?_;exact M8):p:=h
theorem V8(h:p:=by
  refine VC.body func51 rfl ntmps51 aR fun X0 w0 aZ=>?_;refine af [0,1] ?_;refine aD 2 ?_;refine bN (Zj rfl ot ot func96 aA aA aA aA) ?_;refine an 8 [4] ?_;exact nT):p:=h
theorem V9(h:p:=by
  have hf:nl (l.take i) l[i]=2:=(by unfold nl;rw[if_neg gJ,if_pos w4])
  have aW:fI l=2:=(by rw[hinv,I6 aa (by rw[hf];decide),hf])
  exact xY):p:=h
theorem Cn(h:p:=by
  refine af [2] ?_;refine aI [] ?_;exact Xt):p:=h
theorem Wa(h:p:=by
  have eZ:pJ a b=true:=EU (by rw[take_of_length_le w4,take_of_length_le w4] at Hl;exact Hl);refine af [4] ?_;exact C2):p:=h
theorem Wb(h:p:=by
  refine OD.perm (dZ (A:=[])) ?_;refine an 8 [2] ?_;refine CD.gN (t:=2) (Sq:=S7) lk p8 (cr pG _) (de (A:=[])) ?_;exact nT):p:=h
theorem Wc(h:p:=by
  skip;refine bg [1,14] ?_;refine au ?_ ?_<;>intro bZ cN
  ·refine af [2] ?_;exact z24
  exact z20):p:=h
theorem z138(h:p:=by
  refine af [4,5] ?_;exact z51):p:=h
theorem z139(h:p:=by
  refine aP 0 [_,_,_] sizeOf41 ?_;refine an 42 [8,9] ?_;exact z59):p:=h
theorem Wd(h:p:=by
  skip;refine aE 5 ?_;refine bV 17 (fun xz wV=>?_) (fun xz wV=>?_)
  ·exact z53
  exact z53):p:=h
theorem z141(h:p:=by
  skip;have eZ:pJ a b=false:=JG fun e=>by rw[e] at aM;simp at aM
  refine af [4] ?_;exact z75):p:=h
theorem We(h:p:=by
  skip;refine bg [1,2,71] ?_;refine eI ?_;refine af [4] ?_;refine eN ?_;exact G8):p:=h
theorem z143(h:p:=by
  refine AD.two (i:=4) (j:=7) aA ?_ ?_
  ·refine js (bW 0 [_,_]) [.string ⟨#[]⟩,.string ⟨#[]⟩] [_,_] zeroValue9 runUnderlying29 sizeOf9 (fun b8=>?_);refine jt 0 8 1 2 ?_;exact Gu
  refine jJ call21 (Gw) ?_;refine AD.one (i:=4) aA ?_;refine js (bW 0 [_,_]) [.string ⟨#[]⟩,.string ⟨#[]⟩] [_,_] zeroValue9 runUnderlying29 sizeOf9 (fun b8=>?_);refine jt 0 8 1 2 ?_;exact z116):p:=h
theorem Wf(h:p:=by
  refine AD.two (i:=7) (j:=11) aA ?_ ?_
  ·refine jJ call21 (Gw) ?_;exact V1
  refine bj.alloc (ds:=[_,_,_,_,_,_,_,_,_,_,_,_]) rfl ap rfl rfl zeroValue32 rfl (fun b3=>?_);exact Gu):p:=h
theorem z145(h:p:=by
  refine AD.one (i:=15) aA ?_;refine bj.gM rfl gW rfl rfl rfl call139 (SQ t.s 140 wW call140 Q0 hs) ⟨ot,tv,trivial⟩ ?_;refine cA 19 rfl mT ?_;refine cA 20 rfl xA ?_;exact LA):p:=h
theorem z146(h:p:=by
  have qC:fg h l[i]=6:=(by unfold fg zeroV;rw[if_neg dP,if_neg uo,if_pos (by simp_all)])
  exact z124):p:=h

end Go.Proofs.YtdgichenhdikgaaGreatDoor
namespace Go.Proofs.YtdgichenhdikgaaGreatDoor.V
open List
open Go.RowKit
variable {L X:Nat→Prop} {w':World} {b i k n off o' cap sz j m h' tt bytes:Nat} {I:Array Field} {v u:Value} {e t:TypeId} {y fo:Operand} {a:Act} {cur:Array Value} {lo hi:Option Operand} {ts:Array TypeId} {ad:Option Addr} {ps:Array (Nat×Operand)} {di:Array Operand}
inductive D where
 | v (x:Value)
 | list (sz:Nat) (cs:List D) (len:Nat)
 | fE (cs:List D) (off:Nat)
 | agg (cs:List D)
 | dI (cs:List D)
 | ez (f:Fn) (cs:List D)
 | kf (l:Nat) (os:List (Nat×Obj))
 | bU
 deriving Inhabited
variable {ds cs':List D} {l:List (Nat×D)}
inductive cq (w:World) (L:Nat→Prop):D→Value→Prop
 | v (x:Value):cq w L (.v x) x
 | mq (sz:Nat) (ad:Option Addr) (cap:Nat):cq w L (.list sz [] 0) (.slice ad 0 cap)
 | list (sz:Nat) (cs:List D) (len b o cap:Nat) (f:Nat→Value) (hl:cs.length=len*sz) (h1:len≤cap) (h2:cap≤maxLen) (hb:b<w.heap.size) (hL:¬L b)
   (hc:∀i,i<cs.length→w.cell? ⟨b,o+i,none⟩=some (f i)) (hr:∀i (h:i<cs.length),cq w L cs[i] (f i)):cq w L (.list sz cs len) (.slice (some ⟨b,o,none⟩) len cap)
 | fE (cs:List D) (off b o:Nat) (f:Nat→Value) (hb:b<w.heap.size) (hL:¬L b)
   (hc:∀i,i<cs.length→w.cell? ⟨b,o+i,none⟩=some (f i)) (hr:∀i (h:i<cs.length),cq w L cs[i] (f i)):cq w L (.fE cs off) (.pointer (some ⟨b,o+off,none⟩))
 | agg (cs:List D) (vs:List Value) (hl:vs.length=cs.length) (hr:∀i (h:i<cs.length) (h':i<vs.length),cq w L cs[i] vs[i]):cq w L (.agg cs) (.agg vs.toArray)
 | dI (cs:List D) (vs:List Value) (hl:vs.length=cs.length) (hr:∀i (h:i<cs.length) (h':i<vs.length),cq w L cs[i] vs[i]):cq w L (.dI cs) (.tuple vs.toArray)
 | ez (fn:Fn) (cs:List D) (vs:List Value) (hl:vs.length=cs.length) (hr:∀i (h:i<cs.length) (h':i<vs.length),cq w L cs[i] vs[i]):cq w L (.ez fn cs) (.func fn #[] vs.toArray)
 | kf (l:Nat) (os:List (Nat×Obj)) (h:∀z∈os,z.1<w.heap.size∧¬L z.1∧w.heap[z.1]?=some z.2):cq w L (.kf l os) (.func (.yield l) #[] #[])
 | bU (x:Value):cq w L .bU x
theorem cq.nil{w:World}(sz:Nat):cq w L (.list sz [] 0) (.slice none 0 0):=.mq sz none 0
theorem qS{w:World}(hb:b<w.heap.size)(h:w'.heap[b]?=w.heap[b]?):b<w'.heap.size:=by
 rcases Nat.lt_or_ge b w'.heap.size with h'|h'
 ·exact h'
 rw[Array.getElem?_eq_none h',Array.getElem?_eq_getElem hb] at h;cases h
theorem cq.mono{w:World}{I:Nat→Prop}{d:D}(h:cq w L d v)(H:∀b,b<w.heap.size→¬L b→w'.heap[b]?=w.heap[b]?∧¬I b):cq w' I d v:=by
 induction h with
 | v x=>exact .v x
 | mq sz ad cap=>exact .mq sz ad cap
 | list sz cs len b o cap f hl h1 h2 hb hL hc hr ih =>
  have E:=H b hb hL;exact .list sz cs len b o cap f hl h1 h2 (qS hb E.1) E.2 (fun i hi=>(World.cell?_of_block (w:=w) (a:=⟨b,o+i,none⟩) E.1).trans (hc i hi)) ih
 | fE cs off b o f hb hL hc hr ih =>
  have E:=H b hb hL;exact .fE cs off b o f (qS hb E.1) E.2 (fun i hi=>(World.cell?_of_block (w:=w) (a:=⟨b,o+i,none⟩) E.1).trans (hc i hi)) ih
 | agg cs vs hl hr ih=>exact .agg cs vs hl ih
 | dI cs vs hl hr ih=>exact .dI cs vs hl ih
 | ez fn cs vs hl hr ih=>exact .ez fn cs vs hl ih
 | kf l os h =>
  refine .kf l os fun z hz=>?_;obtain⟨h1,h2,h3⟩:=h z hz;have E:=H z.1 h1 h2;exact⟨qS h1 E.1,E.2,E.1.trans h3⟩
 | bU x=>exact .bU x
structure ah where
 b:Nat
 e:TypeId
 size:Nat
 cs:List D
 deriving Inhabited
variable {S S' Sf R:List ah} {B:ah} {post:D→List ah→Prop}
def y9:TypeId:=1000003
def SR:TypeId:=1000004
def isMap(e:TypeId):Bool:=Nat.beq e y9||Nat.beq e SR
def BW(cur:Array Value):Obj:=.map (cur.mapIdx fun i k=>⟨k,.agg #[],i⟩) cur.size
def UC:Value→Nat
 | .int _ n=>n.toNat
 | _=>0
def Wg:List Value→List MapEntry
 | k::v::b::r=>⟨k,v,UC b⟩::Wg r
 | _=>[]
def afQ(cur:Array Value):Obj:=match cur.toList with
 | c::r=>.map (Wg r).toArray (UC c)
 | []=>.map #[] 0
def ob(e:TypeId)(cur:Array Value):Obj:=bif isMap e then (bif Nat.beq e SR then afQ cur else BW cur) else .cells cur e (0,0)
theorem kp(he:isMap e=false)(cur:Array Value):ob e cur = .cells cur e (0,0):=by rw[ob,he];rfl
theorem UD(cur:Array Value):ob y9 cur=BW cur:=rfl
def KY(w:World)(L:Nat→Prop)(B:ah):Prop :=
 B.b<w.heap.size∧∃cur:Array Value,w.heap[B.b]?=some (ob B.e cur)∧cur.size=B.size∧B.cs.length≤B.size∧∀i (h:i<B.cs.length),∃u,cur[i]?=some u∧cq w L B.cs[i] u
def qX:Value→Bool
 | .tuple _=>false
 | _=>true
def n9(w:World)(b i:Nat):Value→Prop
 | .tuple vs=>∃t fz,w.heap[b]?=some (.cells vs t fz)
 | v=>w.cell? ⟨b,i,none⟩=some v
theorem n9.cell{w:World}(h:n9 w b i v)(E:qX v=true):w.cell? ⟨b,i,none⟩=some v:=by
 cases v<;>first|exact h|cases E
theorem n9.of{w:World}(h:w.cell? ⟨b,i,none⟩=some v)(E:qX v=true):n9 w b i v:=by
 cases v<;>first|exact h|cases E
theorem n9.on{w:World}(hb:w'.heap[b]?=w.heap[b]?)(h:n9 w b i v):n9 w' b i v:=by
 by_cases E:qX v=true
 ·exact .of ((World.cell?_of_block (w:=w) (a:=⟨b,i,none⟩) hb).trans (h.cell E)) E
 cases v<;>first|exact absurd rfl E|(obtain⟨t,fz,h⟩:=h;exact⟨t,fz,hb.trans h⟩)
theorem n9.lt{w:World}(h:n9 w b i v):b<w.heap.size:=by
 by_cases E:qX v=true
 ·exact World.block_lt_of_cell? w _ (h.cell E)
 cases v<;>first|exact absurd rfl E|(obtain⟨t,fz,h⟩:=h;exact(Array.getElem?_eq_some_iff.1 h).1)
theorem Q1{vs:List Value}(h:vs.all qX=true)(hi:vs[i]?=some v):qX v=true:=all_eq_true.1 h v (mem_of_getElem? hi)
structure dN where
 X:Nat→Prop
 w0:World
 S0:List Nat
 G:List (Nat×List Value)
 df:List Deferred
 C4:Act→World→Prop
variable {C:dN}
structure St where
 n:Nat
 env:List (Nat×D)
 S:List ah
def look(t:Nat):List (Nat×D)→D
 | []=>.bU
 | (i,d)::r=>bif Nat.beq i t then d else look t r
theorem fU(t i:Nat)(d:D)(l:List (Nat×D)):look t ((i,d)::l)=if i=t then d else look t l:=by
 rw[look];by_cases e:i=t
 ·subst e;simp
 have:Nat.beq i t=false:=by
  cases h:Nat.beq i t with
  | false=>rfl
  | true=>exact absurd (Nat.eq_of_beq_eq_true h) e
 rw[this,if_neg e];rfl
def aq(S:List ah):List Nat:=S.map (·.b)
def live(X:Nat→Prop)(S:List ah)(b:Nat):Prop:=X b∨b∈aq S
structure Fr (w:World) (S:List Nat) (w':World) (S':List Nat):Prop where
 os:w'.os=w.os
 tape:w'.tape=w.tape
 output:w'.output=w.output
 size:w.heap.size≤w'.heap.size
 block:∀b,b<w.heap.size→b∉S→w'.heap[b]?=w.heap[b]?∧b∉S'
theorem Fr.refl(w:World)(S:List Nat):Fr w S w S:=⟨rfl,rfl,rfl,Nat.le_refl _,fun _ _ h=>⟨rfl,h⟩⟩
theorem Fr.trans{w1 w2 w3:World}{S1 S2 S3:List Nat}(h:Fr w1 S1 w2 S2)(k:Fr w2 S2 w3 S3):Fr w1 S1 w3 S3 :=
 ⟨k.os.trans h.os,k.tape.trans h.tape,k.output.trans h.output,Nat.le_trans h.size k.size,fun b hb hn =>
  have h1:=h.block b hb hn;have h2:=k.block b (Nat.lt_of_lt_of_le hb h.size) h1.2
  ⟨h2.1.trans h1.1,h2.2⟩⟩
structure Own (w:World) (L:Nat→Prop) (S:List ah):Prop where
 at_:∀B∈S,KY w L B
 apart:(aq S).Nodup
structure bH (C:dN) (x:St) (a:Act) (w:World):Prop where
 defers:a.defers=C.df
 size:a.tmps.size=x.n
 env:∀t,t<x.n→cq w (live C.X x.S) (look t x.env) (a.tmps.getD t undef)
 own:Own w (live C.X x.S) x.S
 fr:Fr C.w0 C.S0 w (aq x.S)
 ex:∀b,C.X b→b<C.w0.heap.size∧b∉C.S0
 eP:∀g∈C.G,(g.1<C.w0.heap.size∧g.1∉C.S0∧¬C.X g.1)∧∀i v,g.2[i]?=some v→n9 C.w0 g.1 i v
def St.put(x:St)(t:Nat)(d:D):St:=⟨x.n,(t,d)::x.env,x.S⟩
theorem bH.put{C:dN}{x:St}{a:Act}{w:World}(h:bH C x a w){t:Nat}{d:D}{v:Value}(hd:cq w (live C.X x.S) d v):bH C (x.put t d) (a.put (some t) v) w:=by
 refine⟨h.defers,by simp[Act.put,St.put,h.size],fun i hi=>?_,h.own,h.fr,h.ex,h.eP⟩;have hs:=h.size;simp only[St.put,fU,Act.put] at hi ⊢;by_cases e:t=i
 ·subst e;rw[if_pos rfl];have:(a.tmps.setIfInBounds t v).getD t undef=v:=by
   simp[Array.getElem?_setIfInBounds,hs,hi]
  rw[this];exact hd
 rw[if_neg e];have:(a.tmps.setIfInBounds t v).getD i undef=a.tmps.getD i undef:=by
  simp[Array.getElem?_setIfInBounds_ne e]
 rw[this];exact h.env i hi
def Wk(x y:St):Prop:=∀C a w,bH C x a w→bH C y a w
theorem Wk.refl(x:St):Wk x x:=fun _ _ _ h=>h
theorem Wk.trans{x y z:St}(h:Wk x y)(k:Wk y z):Wk x z:=fun C a w s=>k C a w (h C a w s)
theorem Own.sub{w:World}(h:Own w (live X S) S)(hs:S'.Sublist S):Own w (live X S') S' :=
 have E:(aq S').Sublist (aq S):=Sublist.map _ hs
 ⟨fun B I=>by
  obtain⟨h0,cur,h1,h2,h3,h4⟩:=h.at_ B (hs.subset I);refine⟨h0,cur,h1,h2,h3,fun i hi=>?_⟩;obtain⟨u,hu,hr⟩:=h4 i hi;exact⟨u,hu,hr.mono fun b _ hn=>⟨rfl,fun hl=>hn (hl.imp id fun q=>E.subset q)⟩⟩,h.apart.sublist E⟩
theorem Wk.drop(n:Nat)(l:List (Nat×D))(S S':List ah)(hs:S'.Sublist S):Wk ⟨n,l,S⟩ ⟨n,l,S'⟩:=fun C a w h =>
 have E:(aq S').Sublist (aq S):=Sublist.map _ hs
 ⟨h.defers,h.size,fun t ht=>(h.env t ht).mono fun b _ hn=>⟨rfl,fun hl=>hn (hl.imp id fun q=>E.subset q)⟩,h.own.sub hs,
  ⟨h.fr.os,h.fr.tape,h.fr.output,h.fr.size,fun b hb hn=>⟨(h.fr.block b hb hn).1,fun q=>(h.fr.block b hb hn).2 (E.subset q)⟩⟩,h.ex,h.eP⟩
theorem cq.kV{w:World}{x y:Value}(h:cq w L (.v x) y):y=x:=by cases h;rfl
def aF(x:St):Operand→D
 | .tmp t=>bif Nat.blt t x.n then look t x.env else .bU
 | .const v=>.v v
 | .global g=>.v (.pointer (some ⟨g,0,none⟩))
 | .func f=>.ez (.func f) []
theorem bH.eval{C:dN}{x:St}{a:Act}{w:World}(h:bH C x a w)(o:Operand):cq w (live C.X x.S) (aF x o) (a.eval o):=by
 cases o with
 | tmp t =>
  simp only[aF,Act.eval];cases ht:Nat.blt t x.n with
  | true=>exact h.env t (Nat.le_of_ble_eq_true ht)
  | false=>exact .bU _
 | const v=>exact .v _
 | global g=>exact .v _
 | func f=>exact .ez (.func f) [] [] rfl (fun i h=>by simp at h)
theorem bH.flat{x:St}{w:World}(h:bH C x a w){o:Operand}(ho:aF x o = .v u):a.eval o=u:=by
 have:=h.eval o;rw[ho] at this;exact this.kV
theorem bH.fC{x:St}{w:World}(h:bH C x a w)(hk:x.S[k]?=some B):KY w (live C.X x.S) B:=h.own.at_ B (mem_of_getElem? hk)
theorem Q2(hk:S[k]?=some B):live X S B.b:=.inr (mem_map.2 ⟨B,mem_of_getElem? hk,rfl⟩)
theorem bH.aT{x:St}{w:World}(h:bH C x a w){g:Nat×List Value}(hg:g∈C.G)(hi:g.2[i]?=some v):n9 w g.1 i v:=by
 obtain⟨⟨h1,h2,h3⟩,h4⟩:=h.eP g hg;exact(h4 i v hi).on (h.fr.block g.1 h1 h2).1

inductive Rd where
 | none
 | fC (k:Nat)
 | jY
def Same(C:dN)(x:St)(w w':World):Rd→Prop
 | .none=>True
 | .fC k=>∀B,x.S[k]?=some B→w'.heap[B.b]?=w.heap[B.b]?
 | .jY=>∀b,b<w.heap.size→¬live C.X x.S b→w'.heap[b]?=w.heap[b]?
theorem Same.self(C:dN)(x:St)(w:World):∀k,Same C x w w k
 | .none=>trivial
 | .fC _=>fun _ _=>rfl
 | .jY=>fun _ _ _=>rfl
def bS(P:Program)(G:List (Nat×List Value))(x:St)(o:Oper)(k:Rd)(d:D):Prop :=
 ∀C a w,C.G=G→bH C x a w→∃v,cq w (live C.X x.S) d v∧∀w',Same C x w w' k→(execOp a.eval o).run P w' = .ok (.value v) w'
variable {P:Program} {G:List (Nat×List Value)} {x:St} {o:Oper}
theorem Z3(ho:o.op = .move y):bS P G x o .none (aF x y):=fun C a w _ h =>
 ⟨a.eval y,h.eval y,fun w' _=>by unfold execOp;simp[ho]⟩
theorem Zs(ho:o.op = .assign y):bS P G x o .none (aF x y):=fun C a w _ h =>
 ⟨a.eval y,h.eval y,fun w' _=>by unfold execOp;simp[ho]⟩
theorem Pf{c z:Operand}{t:Bool}(ho:o.op = .pick c y z)(hc:aF x c = .v (.bool t)):bS P G x o .none (if t then aF x y else aF x z):=fun C a w _ h=>by
 refine⟨if t then a.eval y else a.eval z,by cases t<;>simp[h.eval],fun w' _=>?_⟩;unfold execOp;simp only[ho,h.flat hc,asBool];cases t<;>simp
def kO(P:Program)(op:BinOp)(t:TypeId)(u u' r:Value):Prop:=∀(y z:Operand) w,(do eqGuard op t y z u u';Go.binOp op t u u':Sem Value).run P w = .ok r w
theorem dj{op:BinOp}{t':TypeId}{z:Operand}{u' r:Value}(ho:o.op = .binOp op t y z t')(hy:aF x y = .v u)(hz:aF x z = .v u')(hb:kO P op t u u' r):bS P G x o .none (.v r):=fun C a w _ h =>
 ⟨r,.v _,fun w' _=>by
  unfold execOp;have:=hb y z w';simp only[Sem.run_bind] at this;simp only[ho,h.flat hy,h.flat hz,Sem.run_bind,this,Result.andThen_ok,Sem.run_pure]⟩
theorem EV{op:UnOp}{r:Value}(ho:o.op = .unOp op t y)(hy:aF x y = .v u)(hb:∀w,(Op.unary op u).run P w = .ok r w):bS P G x o .none (.v r):=fun C a w _ h =>
 ⟨r,.v _,fun w' _=>by
  unfold execOp;simp only[ho,h.flat hy,Sem.run_bind,hb w',Result.andThen_ok,Sem.run_pure]⟩
theorem oK{s:TypeId}{r:Value}(ho:o.op = .convert s t y)(hy:aF x y = .v u)(hb:∀w,(Go.convert s t u).run P w = .ok r w):bS P G x o .none (.v r):=fun C a w _ h =>
 ⟨r,.v _,fun w' _=>by
  unfold execOp;simp only[ho,h.flat hy,Sem.run_bind,hb w',Result.andThen_ok,Sem.run_pure]⟩
theorem OS{s:TypeId}{f:Field}{w:World}(O:∀w,(underlying s).run P w = .ok (.struct I) w)(hf:I[i]?=some f)(hn:∀w,(sizeOf f.type).run P w = .ok (n+1) w)(E:f.offset=off) :
  (Instr.fieldAt s (.pointer (some ⟨b,o',none⟩)) i).run P w = .ok (.pointer (some ⟨b,o'+off,none⟩)) w:=by
 subst E;simp[Instr.fieldAt,O,hf,Instr.sureAddr,fieldPlace,hn,Addr.add_mid]
theorem ZG {s:TypeId} {f:Field} (ho:o.op = .fieldAddr s y i) (hy:aF x y = .v (.pointer (some ⟨b,o',none⟩)))
  (O:∀w,(underlying s).run P w = .ok (.struct I) w) (hf:I[i]?=some f) (hn:∀w,(sizeOf f.type).run P w = .ok (n+1) w) (E:f.offset=off):bS P G x o .none (.v (.pointer (some ⟨b,o'+off,none⟩))):=fun C a w _ h =>
 ⟨_,.v _,fun w' _=>by
  unfold execOp;simp only[ho,h.flat hy,Sem.run_bind,OS O hf hn E,Result.andThen_ok,Sem.run_pure]⟩
theorem Zt {s:TypeId} {cs:List D} {f:Field} {O:Array Field} (ho:o.op = .fieldAddr s y i) (hy:aF x y = .fE cs o')
  (U:∀w,(underlying s).run P w = .ok (.struct O) w) (hf:O[i]?=some f) (hn:∀w,(sizeOf f.type).run P w = .ok (n+1) w) (E:f.offset=off):bS P G x o .none (.fE cs (o'+off)):=fun C a w _ h=>by
 have hr:=h.eval y;rw[hy] at hr;generalize hg:a.eval y=u at hr;cases hr with
 | fE _ _ b I g hb hL hc hr =>
  refine⟨_,.fE cs (o'+off) b I g hb hL hc hr,fun w' _=>?_⟩;unfold execOp;simp only[ho,hg,Sem.run_bind,OS U hf hn E,Result.andThen_ok,Sem.run_pure,Nat.add_assoc]
theorem Zk{cs:List D}{d:D}(ho:o.op = .extract y i)(hy:aF x y = .dI cs)(hd:cs[i]?=some d):bS P G x o .none d:=fun C a w _ h=>by
 have hr:=h.eval y;rw[hy] at hr;generalize hg:a.eval y=u at hr;cases hr with
 | dI _ vs hl hr =>
  obtain⟨aa,he⟩:=List.getElem?_eq_some_iff.1 hd;refine⟨vs[i]'w4,?_,fun w' _=>?_⟩
  ·rw[←he];exact hr _ aa w4
  unfold execOp;simp[ho,hg,Instr.extract,getElem?_eq_getElem (show i<vs.length by omega)]
theorem IA{w:World}(ha:∀w,(isAgg t).run P w = .ok false w)(hc:w.cell? ⟨b,o',none⟩=some v) :
  (Instr.loadAt t (.pointer (some ⟨b,o',none⟩))).run P w = .ok v w:=by
 simp[Instr.loadAt,Instr.sureAddr,loadVar,ha,hc]
theorem IB {vs:List Value} {w:World} (ha:∀w,(isAgg t).run P w = .ok true w) (hn:∀w,(sizeOf t).run P w = .ok n w) (hl:vs.length=n)
  (hc:∀j (h:j<vs.length),w.cell? ⟨b,o'+j,none⟩=some vs[j]) :
  (Instr.loadAt t (.pointer (some ⟨b,o',none⟩))).run P w = .ok (.agg vs.toArray) w:=by
 have:=run_loadCells_list (P:=P) w ⟨b,o',none⟩ vs (fun j v E=>by
  obtain⟨h1,h2⟩:=List.getElem?_eq_some_iff.1 E;rw[Addr.add_mid,hc j h1,h2])
 rw[hl] at this;simp[Instr.loadAt,Instr.sureAddr,loadVar,ha,hn,this]
theorem nZ{w:World}(E:w.heap[b]?=some (.cells cur e (0,0)))(I:cur[i]?=some u):w.cell? ⟨b,i,none⟩=some u:=by
 unfold World.cell?;simp[E,I]
theorem Ep {d:D} (ho:o.op = .load t y) (hy:aF x y = .v (.pointer (some ⟨b,o',none⟩)))
  (hk:x.S[k]?=some B) (hb:B.b=b) (ha:∀w,(isAgg t).run P w = .ok false w) (hd:B.cs[o']?=some d) (hne:isMap B.e=false:=by rfl):bS P G x o (.fC k) d:=fun C a w _ h=>by
 obtain⟨_,cur,h1,h2,h3,h4⟩:=h.fC hk;rw[kp hne] at h1;obtain⟨aa,he⟩:=List.getElem?_eq_some_iff.1 hd;obtain⟨u,hu,hr⟩:=h4 o' aa;refine⟨u,by rw[←he];exact hr,fun w' hw=>?_⟩;have E:w'.heap[B.b]?=_:=(hw B hk).trans h1;unfold execOp;subst hb;simp only[ho,h.flat hy,Sem.run_bind,IA ha (nZ E hu),Result.andThen_ok,Sem.run_pure]
theorem A6 (ho:o.op = .load t y) (hy:aF x y = .v (.pointer (some ⟨b,o',none⟩)))
  (hk:x.S[k]?=some B) (hb:B.b=b) (ha:∀w,(isAgg t).run P w = .ok true w) (hn:∀w,(sizeOf t).run P w = .ok n w) (hl:ds.length=n) (hd:(B.cs.drop o').take n=ds) (hne:isMap B.e=false:=by rfl):bS P G x o (.fC k) (.agg ds):=fun C a w _ h=>by
 obtain⟨_,cur,h1,h2,h3,h4⟩:=h.fC hk;rw[kp hne] at h1;have hlen:o'+n≤B.cs.length∨n=0:=by
  have:=congrArg length hd;simp only[length_take,length_drop] at this;omega
 have E:∀j,j<n→∃u,cur[o'+j]?=some u∧∀(h:j<ds.length),cq w (live C.X x.S) ds[j] u:=fun j hj=>by
  obtain⟨u,hu,hr⟩:=h4 (o'+j) w4;refine⟨u,hu,fun h=>?_⟩;subst hd;simpa using hr
 refine⟨.agg ((range n).map fun j=>cur.getD (o'+j) undef).toArray,.agg _ _ (by simp[hl]) (fun i q1 q2=>?_),fun w' hw=>?_⟩
 ·obtain⟨u,hu,hr⟩:=E i w4;simp only[getElem_map,getElem_range,Array.getD_eq_getD_getElem?,hu,Option.getD_some];exact hr q1
 have I:w'.heap[B.b]?=_:=(hw B hk).trans h1;unfold execOp;subst hb;have:=IB (P:=P) (w:=w') (b:=B.b) (o':=o') (vs:=(range n).map fun j=>cur.getD (o'+j) undef) ha hn bf (fun j hj=>by
  simp only[length_map,length_range] at hj;obtain⟨u,hu,_⟩:=E j hj;simp only[getElem_map,getElem_range,Array.getD_eq_getD_getElem?,hu,Option.getD_some];exact nZ I hu)
 simp only[ho,h.flat hy,Sem.run_bind,this,Result.andThen_ok,Sem.run_pure]
theorem En {cs:List D} {d:D} (ho:o.op = .load t y) (hy:aF x y = .fE cs o')
  (ha:∀w,(isAgg t).run P w = .ok false w) (hd:cs[o']?=some d):bS P G x o .jY d:=fun C a w _ h=>by
 have hr:=h.eval y;rw[hy] at hr;generalize hg:a.eval y=u at hr;cases hr with
 | fE _ _ b E g hb hL hc hr =>
  obtain⟨aa,he⟩:=List.getElem?_eq_some_iff.1 hd;refine⟨g o',by rw[←he];exact hr o' aa,fun w' hw=>?_⟩;have I:=World.cell?_of_block (w:=w) (a:=⟨b,E+o',none⟩) (hw b hb hL);unfold execOp;simp only[ho,hg,Sem.run_bind,IA ha (I.trans (hc o' aa)),Result.andThen_ok,Sem.run_pure]
theorem H7 {cs:List D} (ho:o.op = .load t y) (hy:aF x y = .fE cs o')
  (ha:∀w,(isAgg t).run P w = .ok true w) (hn:∀w,(sizeOf t).run P w = .ok n w) (hl:ds.length=n) (hd:(cs.drop o').take n=ds):bS P G x o .jY (.agg ds):=fun C a w _ h=>by
 have hr:=h.eval y;rw[hy] at hr;generalize hg:a.eval y=u at hr;cases hr with
 | fE _ _ b E g hb hL hc hr =>
  have hlen:o'+n≤cs.length∨n=0:=by
   have:=congrArg length hd;simp only[length_take,length_drop] at this;omega
  refine⟨.agg ((range n).map fun j=>g (o'+j)).toArray,.agg _ _ (by simp[hl]) (fun i q1 q2=>?_),fun w' hw=>?_⟩
  ·simp only[getElem_map,getElem_range];have:=hr (o'+i) w4;subst hd;simpa using this
  have:=IB (P:=P) (w:=w') (b:=b) (o':=E+o') (vs:=(range n).map fun j=>g (o'+j)) ha hn bf (fun j hj=>by
   simp only[length_map,length_range] at hj;simp only[getElem_map,getElem_range];have I:=World.cell?_of_block (w:=w) (a:=⟨b,E+o'+j,none⟩) (hw b hb hL);rw[I,Nat.add_assoc];exact hc _ w4)
  unfold execOp;simp only[ho,hg,Sem.run_bind,this,Result.andThen_ok,Sem.run_pure]
theorem ZH {vs:List Value} (ho:o.op = .load t y) (hy:aF x y = .v (.pointer (some ⟨b,o',none⟩)))
  (hg:(b,vs)∈G) (ha:∀w,(isAgg t).run P w = .ok false w) (hd:vs[o']?=some v) (qK:qX v=true:=by rfl):bS P G x o .jY (.v v):=fun C a w hG h=>by
 subst hG;refine⟨v,.v _,fun w' hw=>?_⟩;have h1:=(h.aT hg hd).cell qK;obtain⟨⟨q1,q2,q3⟩,_⟩:=h.eP _ hg;have hb:b<w.heap.size:=Nat.lt_of_lt_of_le q1 h.fr.size;have hn:¬live C.X x.S b:=fun hl=>hl.elim q3 (h.fr.block b q1 q2).2;have E:=World.cell?_of_block (w:=w) (a:=⟨b,o',none⟩) (hw b hb hn);unfold execOp;simp only[ho,h.flat hy,Sem.run_bind,IA ha (E.trans h1),Result.andThen_ok,Sem.run_pure]

theorem SS{len:Nat}{k:IntKind}{i:Int}{w:World}(E:∀w,(underlying t).run P w = .ok (.slice e) w)(hs:∀w,(sizeOf e).run P w = .ok sz w)(hi:i=j)(hj:j<len) :
  (Instr.indexAt t (.slice (some ⟨b,o',none⟩) len cap) (.int k i)).run P w = .ok (.pointer (some ⟨b,o'+j*sz,none⟩)) w:=by
 subst hi;simp[Instr.indexAt,asIntOf,E,hs,hj,Addr.add_mid]
theorem PO {len:Nat} {cs:List D} {k:IntKind} {i:Int} {z:Operand} (ho:o.op = .indexAddr t y z) (hy:aF x y = .list sz cs len) (hz:aF x z = .v (.int k i))
  (I:∀w,(underlying t).run P w = .ok (.slice e) w) (hs:∀w,(sizeOf e).run P w = .ok sz w) (hi:i=j) (hj:j<len):bS P G x o .none (.fE cs (j*sz)):=fun C a w _ h=>by
 have hr:=h.eval y;rw[hy] at hr;generalize hg:a.eval y=u at hr;cases hr with
 | mq=>omega
 | list _ _ _ b E cap g hl h1 h2 hb hL hc hr =>
  refine⟨_,.fE cs (j*sz) b E g hb hL hc hr,fun w' _=>?_⟩;unfold execOp;simp only[ho,hg,h.flat hz,Sem.run_bind,SS I hs hi hj,Result.andThen_ok,Sem.run_pure]
theorem Pg {len:Nat} {k:IntKind} {i:Int} {z:Operand} (ho:o.op = .indexAddr t y z) (hy:aF x y = .v (.slice (some ⟨b,o',none⟩) len cap)) (hz:aF x z = .v (.int k i))
  (E:∀w,(underlying t).run P w = .ok (.slice e) w) (hs:∀w,(sizeOf e).run P w = .ok sz w) (hi:i=j) (hj:j<len):bS P G x o .none (.v (.pointer (some ⟨b,o'+j*sz,none⟩))):=fun C a w _ h =>
 ⟨_,.v _,fun w' _=>by
  unfold execOp;simp only[ho,h.flat hy,h.flat hz,Sem.run_bind,SS E hs hi hj,Result.andThen_ok,Sem.run_pure]⟩
theorem acp{len:Nat}{k:IntKind}{i:Int}{w:World}(E:∀w,(underlying t).run P w = .ok (.array len e) w)(hs:∀w,(sizeOf e).run P w = .ok sz w)(hi:i=j)(hj:j<len) :
  (Instr.indexAt t (.pointer (some ⟨b,o',none⟩)) (.int k i)).run P w = .ok (.pointer (some ⟨b,o'+j*sz,none⟩)) w:=by
 subst hi;simp[Instr.indexAt,asIntOf,E,hs,hj,Addr.add_mid,Instr.sureAddr]
theorem Z4 {len:Nat} {k:IntKind} {i:Int} {z:Operand} (ho:o.op = .indexAddr t y z) (hy:aF x y = .v (.pointer (some ⟨b,o',none⟩))) (hz:aF x z = .v (.int k i))
  (E:∀w,(underlying t).run P w = .ok (.array len e) w) (hs:∀w,(sizeOf e).run P w = .ok sz w) (hi:i=j) (hj:j<len):bS P G x o .none (.v (.pointer (some ⟨b,o'+j*sz,none⟩))):=fun C a w _ h =>
 ⟨_,.v _,fun w' _=>by
  unfold execOp;simp only[ho,h.flat hy,h.flat hz,Sem.run_bind,acp E hs hi hj,Result.andThen_ok,Sem.run_pure]⟩
theorem Ij {s:ByteArray} {c:UInt8} {k:IntKind} {i:Int} {z:Operand} (ho:o.op = .index t y z) (hy:aF x y = .v (.string s)) (hz:aF x z = .v (.int k i))
  (E:∀w,(underlying t).run P w = .ok .string w) (hi:i=j) (hj:s[j]?=some c):bS P G x o .none (.v (.int .u8 c.toNat)):=fun C a w _ h =>
 ⟨_,.v _,fun w' _=>by
  subst hi;unfold execOp;simp[ho,h.flat hy,h.flat hz,Instr.index,asIntOf,E,hj]⟩
theorem Z5 {len:Nat} {cs:List D} {d:D} {k:IntKind} {i:Int} {z:Operand} (ho:o.op = .index t y z) (hy:aF x y = .agg cs) (hz:aF x z = .v (.int k i))
  (E:∀w,(underlying t).run P w = .ok (.array len e) w) (hs:∀w,(sizeOf e).run P w = .ok sz w) (ha:∀w,(isAgg e).run P w = .ok false w) (hi:i=j) (hj:j<len) (hd:cs[j*sz]?=some d):bS P G x o .none d:=fun C a w _ h=>by
 have hr:=h.eval y;rw[hy] at hr;generalize hg:a.eval y=u at hr;subst hi;cases hr with
 | agg _ vs hl hr =>
  obtain⟨aa,he⟩:=List.getElem?_eq_some_iff.1 hd;refine⟨vs[j*sz]'w4,?_,fun w' _=>?_⟩
  ·rw[←he];exact hr _ aa w4
  unfold execOp;simp[ho,hg,h.flat hz,Instr.index,asIntOf,E,hj,part,ha,hs,getElem?_eq_getElem (show j*sz<vs.length by omega)]
def mH(x:St)(y:Option Operand)(n:Nat)(aiJ:Nat):Prop :=
 match y with
 | some y=>∃(k:IntKind) (i:Int),aF x y = .v (.int k i)∧i=n
 | none=>n=aiJ
theorem rX{w:World}(h:bH C x a w){y:Option Operand}{E:Nat}(hb:mH x y n E):(∃k,y.map a.eval=some (.int k n))∨(y.map a.eval=none∧n=E):=by
 cases y with
 | none=>exact .inr ⟨rfl,hb⟩
 | some y =>
  obtain⟨k,i,h1,h2⟩:=hb;exact .inl ⟨k,by rw[Option.map_some,h.flat h1,h2]⟩
theorem Er{k:IntKind}{code:BoundsCode}{w:World}(h:n≤m):(Instr.sliceBound (.int k n) m code).run P w = .ok n w:=by
 unfold Instr.sliceBound;simp[asIntOf,h]
theorem v8{il:Bool}{len l h:Nat}{lo hi:Option Value}{w:World}(eS:(∃k,lo=some (.int k l))∨(lo=none∧l=0))(eB:(∃k,hi=some (.int k h))∨(hi=none∧h=len))(h1:l≤h)(h2:h≤cap) :
  (Instr.sliceBounds il len cap lo hi none).run P w = .ok (l,h,cap) w:=by
 unfold Instr.sliceBounds;rcases eS with ⟨k,rfl⟩|⟨rfl,rfl⟩<;>rcases eB with ⟨k',rfl⟩|⟨rfl,rfl⟩<;>simp[Er,h1,h2]
theorem Ia {len l:Nat} {cs:List D} (ho:o.op = .slice t y lo hi none) (hy:aF x y = .list sz cs len) (eS:mH x lo l 0) (eB:mH x hi h' len)
  (U:∀w,(underlying t).run P w = .ok (.slice e) w) (hs:∀w,(sizeOf e).run P w = .ok sz w) (h1:l≤h') (h2:h'≤len):bS P G x o .none (.list sz ((cs.drop (l*sz)).take ((h'-l)*sz)) (h'-l)):=fun C a w _ h=>by
 have hr:=h.eval y;rw[hy] at hr;generalize hg:a.eval y=u at hr;have b1:=rX h eS;have b2:=rX h eB;cases hr with
 | mq _ ad cap =>
  have e1:l=0:=(by omega)
  have e2:h'=0:=(by omega)
  subst e1 e2;refine⟨.slice (if cap=0 then ad else ad.map (·.add (0*sz))) 0 cap,by simpa using cq.mq sz _ _,fun w' _=>?_⟩;unfold execOp;simp[ho,hg,Instr.sliceAt,Instr.slice,U,v8 b1 b2 (Nat.le_refl _) (Nat.zero_le _),hs]
 | list _ _ _ b E cap g hl q1 q2 hb hL hc hr =>
  have hlen:((cs.drop (l*sz)).take ((h'-l)*sz)).length=(h'-l)*sz:=by
   rw[length_take,length_drop,hl,←Nat.sub_mul];exact Nat.min_eq_left (Nat.mul_le_mul_right _ w4)
  have O:∀i,i<(h'-l)*sz→l*sz+i<cs.length:=fun i hi=>by
   rw[hl];have:l*sz+(h'-l)*sz≤len*sz:=(by rw[←Nat.add_mul];exact Nat.mul_le_mul_right _ w4)
   omega
  by_cases I:cap=l
  ·have e2:h'=l:=(by omega)
   refine⟨.slice (some ⟨b,E,none⟩) (h'-l) (cap-l),?_,fun w' _=>?_⟩
   ·refine .list sz _ _ b E _ g hlen w4 w4 hb hL (fun i hi=>?_) (fun i hi=>?_)<;>(rw[hlen,e2] at hi;simp at hi)
   have b3:=fun w=>v8 (P:=P) (il:=true) (w:=w) b1 b2 h1 (Nat.le_trans h2 q1);unfold execOp;simp only[ho,hg,Instr.sliceAt,Instr.slice,U,Sem.run_bind,Result.andThen_ok,Option.map_none,b3,hs,Sem.run_pure,if_pos I]
  refine⟨.slice (some ⟨b,E+l*sz,none⟩) (h'-l) (cap-l),?_,fun w' _=>?_⟩
  ·refine .list sz _ _ b (E+l*sz) _ (fun i=>g (l*sz+i)) hlen w4 w4 hb hL (fun i hi=>?_) (fun i hi=>?_)
   ·rw[Nat.add_assoc];exact hc _ (O i (by rw[hlen] at hi;exact hi))
   simp only[getElem_take,getElem_drop];exact hr _ _
  have b3:=fun w=>v8 (P:=P) (il:=true) (w:=w) b1 b2 h1 (Nat.le_trans h2 q1);unfold execOp;simp only[ho,hg,Instr.sliceAt,Instr.slice,U,Sem.run_bind,Result.andThen_ok,Option.map_none,b3,hs,Sem.run_pure,if_neg I,Option.map_some,Addr.add_mid]
theorem O0 {len:Nat} (ho:o.op = .slice t y lo hi none) (hy:aF x y = .v (.slice (some ⟨b,o',none⟩) len cap)) (eS:mH x lo 0 0) (eB:mH x hi h' len)
  (E:∀w,(underlying t).run P w = .ok (.slice e) w) (hs:∀w,(sizeOf e).run P w = .ok sz w) (h2:h'≤cap):bS P G x o .none (.v (.slice (some ⟨b,o',none⟩) h' cap)):=fun C a w _ h =>
 ⟨_,.v _,fun w' _=>by
  have b1:=rX h eS;have b2:=rX h eB;unfold execOp;simp[ho,h.flat hy,Instr.sliceAt,Instr.slice,E,v8 b1 b2 (Nat.zero_le _) h2,hs,Addr.add_mid]⟩
theorem Zu {s:ByteArray} {l:Nat} (ho:o.op = .slice t y lo hi none) (hy:aF x y = .v (.string s)) (eS:mH x lo l 0) (eB:mH x hi h' s.size)
  (E:∀w,(underlying t).run P w = .ok .string w) (h1:l≤h') (h2:h'≤s.size):bS P G x o .none (.v (.string (s.extract l h'))):=fun C a w _ h =>
 ⟨_,.v _,fun w' _=>by
  have b1:=rX h eS;have b2:=rX h eB;unfold execOp;simp[ho,h.flat hy,Instr.sliceAt,Instr.slice,E,v8 b1 b2 h1 h2]⟩
theorem aaT{len:Nat}{cs:List D}(ho:o.op = .call {callee:=.builtin .len,args:=#[y],argTypes:=ts})(ht:ts = #[t])(hy:aF x y = .list sz cs len)(E:∀w,(underlying t).run P w = .ok (.slice e) w):bS P G x o .none (.v (.int .i64 len)):=fun C a w _ h=>by
 have hr:=h.eval y;rw[hy] at hr;generalize hg:a.eval y=u at hr;subst ht;refine⟨_,.v _,fun w' _=>?_⟩;cases hr<;>(unfold execOp;simp[ho,hg,resolve,invoke,builtin,Builtin.len_,E,goInt])
theorem Pj{len:Nat}(ho:o.op = .call {callee:=.builtin .len,args:=#[y],argTypes:=ts})(ht:ts = #[t])(hy:aF x y = .v (.slice ad len cap))(E:∀w,(underlying t).run P w = .ok (.slice e) w):bS P G x o .none (.v (.int .i64 len)):=fun C a w _ h=>by
 subst ht;refine⟨_,.v _,fun w' _=>?_⟩;unfold execOp;simp[ho,h.flat hy,resolve,invoke,builtin,Builtin.len_,E,goInt]
theorem Es {s:ByteArray} (ho:o.op = .call {callee:=.builtin .len,args:=#[y],argTypes:=ts}) (ht:ts = #[t]) (hy:aF x y = .v (.string s))
  (E:∀w,(underlying t).run P w = .ok .string w):bS P G x o .none (.v (.int .i64 s.size)):=fun C a w _ h=>by
 subst ht;refine⟨_,.v _,fun w' _=>?_⟩;unfold execOp;simp[ho,h.flat hy,resolve,invoke,builtin,Builtin.len_,E,goInt]
theorem Zv {b:Builtin} {u' r:Value} {z:Operand} (ho:o.op = .call {callee:=.builtin b,args:=#[y,z],argTypes:=ts}) (hy:aF x y = .v u) (hz:aF x z = .v u')
  (hb:∀cs w,(Go.builtin b ts o.type cs #[u,u']).run P w = .ok (.value r) w):bS P G x o .none (.v r):=fun C a w _ h =>
 ⟨_,.v _,fun w' _=>by
  unfold execOp;simp[ho,h.flat hy,h.flat hz,resolve,invoke,hb]⟩
theorem Z6{fn:Fn}{E:Array Operand}(ho:o.op = .makeFunc fn #[] E)(hd:E.toList.map (aF x)=ds):bS P G x o .none (.ez fn ds):=fun C a w _ h=>by
 subst hd;refine⟨.func fn #[] (E.toList.map a.eval).toArray,.ez _ _ _ bf (fun i q1 q2=>?_),fun w' _=>?_⟩
 ·simp only[getElem_map];exact h.eval _
 unfold execOp;simp[ho,Instr.makeFunc];rw[←Array.toList_map,Array.toArray_toList]
def l8(W:List Nat)(w w':World):Prop:=w.heap.size≤w'.heap.size∧∀b,b<w.heap.size→b∉W→w'.heap[b]?=w.heap[b]?
def fP(P:Program)(G:List (Nat×List Value))(x:St)(o:Oper)(W:List Nat)(post:St→Prop):Prop :=
 ∀(C:dN) (a:Act) (w:World) (K:Act→World→Prop) (Q:Exit→Act→World→Prop),C.G=G→bH C x a w→(∀y a' w',post y→bH C y a' w'→l8 W w w'→Fr w (aq x.S) w' (aq y.S)→K a' w')→o.wp P a w K Q
theorem l8.refl(W:List Nat)(w:World):l8 W w w:=⟨Nat.le_refl _,fun _ _ _=>rfl⟩
theorem bS.fW{k:Rd}{d:D}{t:Nat}(h:bS P G x o k d)(hd:o.dst=some t):fP P G x o [] (fun y=>y=x.put t d):=fun C a w K Q hG hs hK=>by
 obtain⟨v,hr,nL⟩:=h C a w hG hs;unfold Oper.wp;rw[nL w (Same.self C x w k),Oper.upon_value,hd];exact hK _ _ _ rfl (hs.put hr) (l8.refl _ _) (Fr.refl _ _)
def cellsOf:D→List D
 | .agg cs=>cs
 | .v (.agg cs)=>cs.toList.map .v
 | d=>[d]
def cQ(w:World)(L:Nat→Prop)(ds:List D)(vs:List Value):Prop:=vs.length=ds.length∧∀i (h:i<ds.length) (h':i<vs.length),cq w L ds[i] vs[i]
theorem cQ.mono{w w':World}{L E:Nat→Prop}{ds:List D}{vs:List Value}(h:cQ w L ds vs)(H:∀b,b<w.heap.size→¬L b→w'.heap[b]?=w.heap[b]?∧¬E b):cQ w' E ds vs :=
 ⟨h.1,fun i h1 h2=>(h.2 i h1 h2).mono H⟩
def one:D→Bool
 | .v x=>x.oneCell'
 | .list ..|.fE ..|.ez ..=>true
 | _=>false
theorem cq.Bn{w:World}{d:D}(h:cq w L d v)(hd:one d=true):v.oneCell'=true:=by
 cases h<;>first|exact hd|rfl|exact absurd hd (by simp[one])
theorem cq.cells{w:World}{L:Nat→Prop}{d:D}{v:Value}(h:cq w L d v)(hd:d≠.bU):cQ w L (cellsOf d) v.cells.toList:=by
 have E:∀(d:D) (v:Value),v.cells = #[v]→cellsOf d=[d]→cq w L d v→cQ w L (cellsOf d) v.cells.toList:=fun d v h1 h2 h3=>by
  rw[h1,h2];refine⟨rfl,fun i q1 q2=>?_⟩;have:i=0:=(by simpa using q1)
  subst this;exact h3
 cases h with
 | v =>
  cases v with
  | agg cs =>
   refine⟨by simp[cellsOf,Value.cells],fun i q1 q2=>?_⟩;simp only[cellsOf,getElem_map,Value.cells];exact .v _
  | _=>exact E _ _ rfl rfl (.v _)
 | mq sz ad cap=>exact E _ _ rfl rfl (.mq sz ad cap)
 | list sz cs len b o cap f hl h1 h2 hb hL hc hr=>exact E _ _ rfl rfl (.list sz cs len b o cap f hl h1 h2 hb hL hc hr)
 | fE cs off b o f hb hL hc hr=>exact E _ _ rfl rfl (.fE cs off b o f hb hL hc hr)
 | agg cs vs hl hr=>exact⟨by simp[cellsOf,Value.cells,hl],fun i q1 q2=>hr i q1 q2⟩
 | dI cs vs hl hr=>exact E _ _ rfl rfl (.dI cs vs hl hr)
 | ez fn cs vs hl hr=>exact E _ _ rfl rfl (.ez fn cs vs hl hr)
 | kf l os h=>exact E _ _ rfl rfl (.kf l os h)
 | bU=>exact absurd rfl hd
theorem getElem?_push_lt{w:World}{ob:Obj}(h:b<w.heap.size):(w.alloc ob).heap[b]?=w.heap[b]?:=Below.heap_alloc w ob b h
theorem bH.Vg {w:World} (h:bH C x a w) {t:Nat} {cells:Array Value} {size:Nat} (hr:cQ w (live C.X x.S) ds cells.toList) (O:cells.size=size) {d:D}
  (hd:∀L,cq (w.alloc (ob e cells)) L d v) :
  bH C ⟨x.n,(t,d)::x.env,⟨w.heap.size,e,size,ds⟩::x.S⟩ (a.put (some t) v) (w.alloc (ob e cells)):=by
 have aa:∀b,live C.X x.S b→b<w.heap.size:=fun b hb=>by
  rcases hb with hb|hb
  ·exact Nat.lt_of_lt_of_le (h.ex b hb).1 h.fr.size
  obtain⟨B,I,rfl⟩:=mem_map.1 hb;exact(h.own.at_ B I).1
 have H:∀b,b<w.heap.size→¬live C.X x.S b→(w.alloc (ob e cells)).heap[b]?=w.heap[b]?∧¬live C.X (⟨w.heap.size,e,size,ds⟩::x.S) b:=fun b hb hn =>
  ⟨getElem?_push_lt hb,fun hl=>by
   rcases hl with hl|hl
   ·exact hn (.inl hl)
   simp only[aq,map_cons,mem_cons] at hl;rcases hl with hl|hl
   ·omega
   exact hn (.inr hl)⟩
 have base:bH C ⟨x.n,x.env,⟨w.heap.size,e,size,ds⟩::x.S⟩ a (w.alloc (ob e cells)):=by
  refine⟨h.defers,h.size,fun t ht=>(h.env t ht).mono H,⟨fun B I=>?_,?_⟩,?_,h.ex,h.eP⟩
  ·rcases mem_cons.1 I with rfl|I
   ·refine⟨by simp,cells,heap_alloc_new w _,O,?_,fun i hi=>?_⟩
    ·have:=hr.1;simp at this;simp only;omega
    have E:i<cells.toList.length:=(by rw[hr.1];exact hi)
    refine⟨cells.toList[i],?_,(hr.2 i hi E).mono H⟩;simp at E;simp[E]
   obtain⟨h0,cur,h1,h2,h3,h4⟩:=h.own.at_ B I;refine⟨by simp;omega,cur,(getElem?_push_lt h0).trans h1,h2,h3,fun i hi=>?_⟩;obtain⟨u,hu,hq⟩:=h4 i hi;exact⟨u,hu,hq.mono H⟩
  ·show(w.heap.size::aq x.S).Nodup;exact nodup_cons.2 ⟨fun hm=>Nat.lt_irrefl _ (aa _ (.inr hm)),h.own.apart⟩
  refine⟨h.fr.os,h.fr.tape,h.fr.output,by simp;have:=h.fr.size;omega,fun b hb hn=>?_⟩;obtain⟨q1,q2⟩:=h.fr.block b hb hn;have U:=Nat.lt_of_lt_of_le hb h.fr.size;refine⟨(getElem?_push_lt U).trans q1,fun hm=>?_⟩;simp only[aq,map_cons,mem_cons] at hm;rcases hm with hm|hm
  ·omega
  exact q2 hm
 exact base.put (hd _)
theorem bH.new {w:World} (h:bH C x a w) {t:Nat} {cells:Array Value} {size:Nat} (hr:cQ w (live C.X x.S) ds cells.toList) (E:cells.size=size) {d:D}
  (hd:∀L,cq (w.alloc (.cells cells e)) L d v) (hne:isMap e=false:=by rfl) :
  bH C ⟨x.n,(t,d)::x.env,⟨w.heap.size,e,size,ds⟩::x.S⟩ (a.put (some t) v) (w.alloc (.cells cells e)):=by
 have:=bH.Vg h (e:=e) hr E (t:=t) (d:=d) (v:=v) (fun L=>by rw[kp hne];exact hd L);rw[kp hne] at this;exact this
theorem l8.alloc(w:World)(ob:Obj):l8 [] w (w.alloc ob):=⟨by simp,fun b hb _=>getElem?_push_lt hb⟩
theorem Fr.alloc(w:World)(ob:Obj)(S:List Nat):Fr w S (w.alloc ob) (w.heap.size::S) :=
 ⟨rfl,rfl,rfl,by simp,fun b hb hn=>⟨getElem?_push_lt hb,fun hm=>by
  rcases mem_cons.1 hm with hm|hm
  ·omega
  exact hn hm⟩⟩
def wL(x:St)(t:Nat)(e:TypeId)(ds:List D)(y:St):Prop:=∃b,y=⟨x.n,(t,.v (.pointer (some ⟨b,0,none⟩)))::x.env,⟨b,e,ds.length,ds⟩::x.S⟩
theorem Bc{z:Value}{t:Nat}(ho:o.op = .alloc e)(hd:o.dst=some t)(hz:∀w,(zeroValue e).run P w = .ok z w)(jw:z.cells.toList.map .v=ds)(hne:isMap e=false:=by rfl):fP P G x o [] (wL x t e ds):=fun C a w K Q hG h hK=>by
 subst jw;unfold Oper.wp;have:(execOp a.eval o).run P w = .ok (.value (.pointer (some ⟨w.heap.size,0,none⟩))) (w.alloc (.cells z.cells e)):=by
  unfold execOp;simp[ho,Instr.alloc,hz,newVar,newRow]
 rw[this,Oper.upon_value,hd];refine hK _ _ _ ⟨w.heap.size,rfl⟩ (h.new (ds:=z.cells.toList.map .v) ⟨by simp,fun i q1 q2=>?_⟩ bf (fun L=>.v _) hne) (l8.alloc _ _) (Fr.alloc _ _ _);simp only[getElem_map];exact .v _
theorem aej{t:Nat}{d:D}(ho:o.op = .box e y)(hd:o.dst=some t)(hy:aF x y=d)(hj:d≠.bU)(jw:cellsOf d=ds)(hne:isMap e=false:=by rfl):fP P G x o [] (wL x t e ds):=fun C a w K Q hG h hK=>by
 subst jw;unfold Oper.wp;have:(execOp a.eval o).run P w = .ok (.value (.pointer (some ⟨w.heap.size,0,none⟩))) (w.alloc (.cells (a.eval y).cells e)):=by
  unfold execOp;simp[ho,Instr.box,newVar,newRow]
 rw[this,Oper.upon_value,hd];have hr:=h.eval y;rw[hy] at hr;have hc:=hr.cells hj;refine hK _ _ _ ⟨w.heap.size,rfl⟩ (h.new (ds:=cellsOf d) hc (by have:=hc.1;simpa using this) (fun L=>.v _) hne) (l8.alloc _ _) (Fr.alloc _ _ _)

def dw(cs:List D)(off:Nat):List D→List D
 | []=>cs
 | d::r=>dw (cs.set off d) (off+1) r
def mo(place:Nat→Option (Nat×Nat))(cells:List D):List (Nat×D)→Option (List D)
 | []=>some cells
 | (i,d)::rest =>
  match place i with
  | none=>none
  | some (off,size)=>if (cellsOf d).length≠size||off+(cellsOf d).length>cells.length then none else mo place (dw cells off (cellsOf d)) rest
theorem cQ.set{w:World}{L:Nat→Prop}{ds:List D}{vs:List Value}(h:cQ w L ds vs)(i:Nat){d:D}{v:Value}(hd:cq w L d v):cQ w L (ds.set i d) (vs.set i v) :=
 ⟨by simp[h.1],fun j h1 h2=>by
  rw[getElem_set,getElem_set];split
  ·exact hd
  exact h.2 j _ _⟩
theorem cQ.tail{w:World}{d:D}{vs:List Value}(h:cQ w L (d::ds) (v::vs)):cq w L d v∧cQ w L ds vs :=
 ⟨h.2 0 bf bf,by simpa using h.1,fun i h1 h2=>h.2 (i+1) (by simpa using h1) (by simpa using h2)⟩
theorem IC{β:Type}(f:β→Value→Nat→β):∀(r:List Value) (k:Nat) (z:β),(r.zipIdx (k+1)).foldl (fun c (x:Value×Nat)=>f c x.1 x.2) z=(r.zipIdx k).foldl (fun c (x:Value×Nat)=>f c x.1 (x.2+1)) z
 | [],_,_=>rfl
 | v::r,k,z=>by
  simp only[zipIdx_cons,foldl_cons];exact IC f r (k+1) _
theorem cQ.dw{w:World}{L:Nat→Prop}:∀(ds:List D) (vs:List Value) (cs:List D) (cells:List Value) (off:Nat),cQ w L ds vs→cQ w L cs cells→cQ w L (dw cs off ds) (vs.zipIdx.foldl (fun cs (c,j)=>cs.set (off+j) c) cells)
 | [],[],cs,cells,off,_,h=>h
 | [],_::_,_,_,_,h,_=>by simp[cQ] at h
 | _::_,[],_,_,_,h,_=>by simp[cQ] at h
 | d::ds,v::vs,cs,cells,off,h,hc=>by
  obtain⟨h0,h1⟩:=h.tail;have E:=cQ.dw ds vs (cs.set off d) (cells.set off v) (off+1) h1 (hc.set off h0);have e:(v::vs).zipIdx.foldl (fun cs (x:Value×Nat)=>cs.set (off+x.2) x.1) cells=vs.zipIdx.foldl (fun cs (x:Value×Nat)=>cs.set (off+1+x.2) x.1) (cells.set off v):=by
   rw[zipIdx_cons,foldl_cons,Nat.add_zero,IC (fun (c:List Value) v n=>c.set (off+n) v)];congr 1;funext a b;rw[Nat.add_assoc,Nat.add_comm 1]
  rw[e];exact E
theorem EB:∀(l:List (Value×Nat)) (cells:Array Value) (off:Nat),(l.foldl (fun cs (x:Value×Nat)=>cs.setIfInBounds (off+x.2) x.1) cells).toList=l.foldl (fun cs (x:Value×Nat)=>cs.set (off+x.2) x.1) cells.toList
 | [],_,_=>rfl
 | (v,j)::l,cells,off=>by
  simp only[foldl_cons];rw[EB l];simp
theorem EW{w:World}{L:Nat→Prop}(place:Nat→Option (Nat×Nat)):∀(E:List (Nat×D)) (sE:List (Nat×Value)) (cs:List D) (cells:Array Value) (ds:List D),
  E.length=sE.length→(∀i (h:i<E.length) (h':i<sE.length),E[i].1=sE[i].1∧E[i].2≠.bU∧cq w L E[i].2 sE[i].2)→cQ w L cs cells.toList→mo place cs E=some ds →
  ∃I,Instr.fill place cells sE=some I∧cQ w L ds I.toList
 | [],[],cs,cells,ds,_,_,hc,hf=>by
  simp only[mo,Option.some.injEq] at hf;subst hf;exact⟨cells,rfl,hc⟩
 | [],_::_,_,_,_,h,_,_,_=>by simp at h
 | _::_,[],_,_,_,h,_,_,_=>by simp at h
 | (i,d)::E,(j,v)::sE,cs,cells,ds,hl,hp,hc,hf=>by
  obtain⟨h1,h2,h3⟩:=hp 0 bf bf;simp only[getElem_cons_zero] at h1 h2 h3;subst h1;have O:=h3.cells h2;have U:v.cells.size=(cellsOf d).length:=(by have:=O.1;simpa using this)
  have Z:cells.size=cs.length:=(by have:=hc.1;simpa using this)
  unfold mo at hf;unfold Instr.fill;cases fN:place i with
  | none=>rw[fN] at hf;simp at hf
  | some os =>
   obtain⟨off,size⟩:=os;simp only[fN] at hf ⊢;rw[U,Z];split at hf
   ·cases hf
   rename_i hn;rw[if_neg hn];refine EW place E sE _ _ ds xo (fun i h h'=>hp (i+1) oY (by simpa using h')) ?_ hf;have:=cQ.dw (w:=w) (L:=L) (cellsOf d) v.cells.toList cs cells.toList off O hc;rw[←EB] at this;have e:v.cells.zipIdx.foldl (fun cs (x:Value×Nat)=>cs.setIfInBounds (off+x.2) x.1) cells=v.cells.toList.zipIdx.foldl (fun cs (x:Value×Nat)=>cs.setIfInBounds (off+x.2) x.1) cells:=by
    rw[←Array.foldl_toList,Array.toList_zipIdx]
   rw[e];exact this
theorem cQ.sE(w:World)(L:Nat→Prop)(vs:List Value):cQ w L (vs.map .v) vs:=⟨by simp,fun i h1 h2=>by simp only[getElem_map];exact .v _⟩
def lN(x:St)(ps:Array (Nat×Operand)):List (Nat×D):=ps.toList.map fun p=>(p.1,aF x p.2)
theorem ID{w:World}(h:bH C x a w)(ps:Array (Nat×Operand))(hj:∀p∈lN x ps,p.2≠.bU):(lN x ps).length=((ps.map fun p=>(p.1,a.eval p.2)).toList).length ∧
  ∀i (h1:i<(lN x ps).length) (h2:i<((ps.map fun p=>(p.1,a.eval p.2)).toList).length),(lN x ps)[i].1=((ps.map fun p=>(p.1,a.eval p.2)).toList)[i].1∧(lN x ps)[i].2≠.bU∧cq w (live C.X x.S) (lN x ps)[i].2 ((ps.map fun p=>(p.1,a.eval p.2)).toList)[i].2:=by
 refine⟨by simp[lN],fun i h1 h2=>⟨?_,hj _ (getElem_mem h1),?_⟩⟩
 ·simp[lN]
 simp only[lN,getElem_map,Array.toList_map];exact h.eval _
theorem ZI {E:Array Field} {places:Array (Nat×Nat)} {z:Value} (ho:o.op = .build t ps) (hz:∀w,(zeroValue t).run P w = .ok z w)
  (I:∀w,(underlying t).run P w = .ok (.struct E) w) (hp:∀w,(E.mapM fun f=>do pure (f.offset,←sizeOf f.type):Sem (Array (Nat×Nat))).run P w = .ok places w)
  (hj:∀p∈lN x ps,p.2≠.bU) (hd:mo (places[·]?) (z.cells.toList.map .v) (lN x ps)=some ds):bS P G x o .none (.agg ds):=fun C a w _ h=>by
 obtain⟨q1,q2⟩:=ID h ps hj;obtain⟨BL,h1,h2⟩:=EW (w:=w) (L:=live C.X x.S) (places[·]?) (lN x ps) ((ps.map fun p=>(p.1,a.eval p.2)).toList) _ z.cells ds q1 q2 (cQ.sE _ _ _) hd;refine⟨.agg BL.toList.toArray,.agg _ _ h2.1 h2.2,fun w' _=>?_⟩;unfold execOp;simp only[ho,Instr.build,hz,I,hp,Sem.run_bind,Result.andThen_ok,h1,Sem.run_pure,Array.toArray_toList]
theorem Zw {z:Value} (ho:o.op = .build t ps) (hz:∀w,(zeroValue t).run P w = .ok z w)
  (E:∀w,(underlying t).run P w = .ok (.array n e) w) (hs:∀w,(sizeOf e).run P w = .ok sz w)
  (hj:∀p∈lN x ps,p.2≠.bU) (hd:mo (fun i=>some (i*sz,sz)) (z.cells.toList.map .v) (lN x ps)=some ds):bS P G x o .none (.agg ds):=fun C a w _ h=>by
 obtain⟨q1,q2⟩:=ID h ps hj;obtain⟨BL,h1,h2⟩:=EW (w:=w) (L:=live C.X x.S) (fun i=>some (i*sz,sz)) (lN x ps) ((ps.map fun p=>(p.1,a.eval p.2)).toList) _ z.cells ds q1 q2 (cQ.sE _ _ _) hd;refine⟨.agg BL.toList.toArray,.agg _ _ h2.1 h2.2,fun w' _=>?_⟩;unfold execOp;simp only[ho,Instr.build,hz,E,hs,Sem.run_bind,Result.andThen_ok,h1,Sem.run_pure,Array.toArray_toList]
def aek(x:St)(t:Nat)(e:TypeId)(len:Nat)(ds:List D)(y:St):Prop:=∃b,y=⟨x.n,(t,.v (.slice (some ⟨b,0,none⟩) len len))::x.env,⟨b,e,ds.length,ds⟩::x.S⟩
theorem H6 {len:Nat} {z:Value} {zs:List D} (ho:o.op = .buildSlice t len ps) (jI:o.dst=some tt) (hz:∀w,(zeroValue e).run P w = .ok z w)
  (I:∀w,(underlying t).run P w = .ok (.slice e) w) (hs:∀w,(sizeOf e).run P w = .ok sz w) (hl:0<len*sz) (iO:len*sz≤2 ^ 24) (eU:(Array.range (len*sz)).map (fun i=>z.cells[i % z.cells.size]!)=(zs.map (fun d=>match d with|.v u=>u|_=>undef)).toArray) (O:∀d∈zs,∃u,d = .v u)
  (hj:∀p∈lN x ps,p.2≠.bU) (hd:mo (fun i=>some (i*sz,sz)) zs (lN x ps)=some ds) (hne:isMap e=false:=by rfl):fP P G x o [] (aek x tt e len ds):=fun C a w K Q hG h hK=>by
 obtain⟨q1,q2⟩:=ID h ps hj;have U:cQ w (live C.X x.S) zs ((zs.map (fun d=>match d with|.v u=>u|_=>undef)).toArray).toList:=by
  refine⟨by simp,fun i h1 h2=>?_⟩;obtain⟨u,I⟩:=O _ (getElem_mem h1);simp only[getElem_map,I];exact .v _
 obtain⟨BL,h1,h2⟩:=EW (w:=w) (L:=live C.X x.S) (fun i=>some (i*sz,sz)) (lN x ps) ((ps.map fun p=>(p.1,a.eval p.2)).toList) _ _ ds q1 q2 U hd;unfold Oper.wp;have:(execOp a.eval o).run P w = .ok (.value (.slice (some ⟨w.heap.size,0,none⟩) len len)) (w.alloc (.cells BL e)):=by
  unfold execOp;have E:¬len*sz=0:=(by omega)
  have Z:¬len*sz>2 ^ 24:=(by omega)
  simp only[ho,Instr.buildSlice,hz,I,hs,Sem.run_bind,Result.andThen_ok,Sem.run_pure,if_neg E,if_neg Z,eU,h1];simp[newRow]
 rw[this,Oper.upon_value,jI];exact hK _ _ _ ⟨w.heap.size,rfl⟩ (h.new (ds:=ds) h2 (by have:=h2.1;simpa using this) (fun L=>.v _) hne) (l8.alloc _ _) (Fr.alloc _ _ _)
theorem OT(b:Nat):∀(vs:List Value) (o':Nat) (w:World) (cur:Array Value) (e:TypeId),w.heap[b]?=some (.cells cur e (0,0))→o'+vs.length≤cur.size →
  (w.setCells b o' vs).heap[b]?=some (.cells (vs.zipIdx.foldl (fun cs (x:Value×Nat)=>cs.setIfInBounds (o'+x.2) x.1) cur) e (0,0))∧(∀k,k≠b→(w.setCells b o' vs).heap[k]?=w.heap[k]?)∧(w.setCells b o' vs).heap.size=w.heap.size ∧
  (w.setCells b o' vs).os=w.os∧(w.setCells b o' vs).tape=w.tape∧(w.setCells b o' vs).output=w.output
 | [],o',w,cur,e,h,_=>⟨h,fun _ _=>rfl,rfl,rfl,rfl,rfl⟩
 | v::r,o',w,cur,e,h,hl=>by
  have h0:(w.setCell ⟨b,o',none⟩ v).heap[b]?=some (.cells (cur.setIfInBounds o' v) e (0,0)):=by
   simp[World.setCell,Array.getElem?_modify,h]
  obtain⟨i1,i2,i3,i4,i5,i6⟩:=OT b r (o'+1) (w.setCell ⟨b,o',none⟩ v) (cur.setIfInBounds o' v) e h0 (by simp at hl ⊢;omega);refine⟨?_,fun k hk=>?_,?_,i4,i5,i6⟩
  ·rw[World.setCells,i1,zipIdx_cons,foldl_cons,Nat.add_zero,IC (fun (c:Array Value) v n=>c.setIfInBounds (o'+n) v)];congr 3;funext a b;rw[Nat.add_assoc,Nat.add_comm 1]
  ·rw[World.setCells,i2 k hk,Below.heap_setCell _ _ _ _ hk]
  rw[World.setCells,i3];simp
theorem yD:∀(ds cs:List D) (off:Nat),(dw cs off ds).length=cs.length
 | [],cs,off=>rfl
 | d::ds,cs,off=>by rw[dw,yD ds];simp
theorem bH.store{w:World}(h:bH C x a w){vs:List Value}(hk:x.S[k]?=some B)(hr:cQ w (live C.X x.S) ds vs)(hl:o'+ds.length≤B.cs.length)(hne:isMap B.e=false:=by rfl) :
  bH C ⟨x.n,x.env,x.S.set k {B with cs:=dw B.cs o' ds}⟩ a (w.setCells B.b o' vs)∧l8 [B.b] w (w.setCells B.b o' vs)∧Fr w (aq x.S) (w.setCells B.b o' vs) (aq (x.S.set k {B with cs:=dw B.cs o' ds})):=by
 obtain⟨h0,cur,h1,h2,h3,h4⟩:=h.fC hk;rw[kp hne] at h1;have rK:vs.length=ds.length:=hr.1;obtain⟨i1,i2,i3,i4,i5,i6⟩:=OT B.b vs o' w cur B.e h1 w4;have ee:k<x.S.length:=(List.getElem?_eq_some_iff.1 hk).1;have vO:x.S[k]=B:=(List.getElem?_eq_some_iff.1 hk).2;have E:aq (x.S.set k {B with cs:=dw B.cs o' ds})=aq x.S:=by
  unfold aq;rw[map_set];apply ext_getElem bf;intro i q1 q2;rw[getElem_set];split
  ·rename_i e;subst e;simp[vO]
  rfl
 have I:live C.X (x.S.set k {B with cs:=dw B.cs o' ds})=live C.X x.S:=(by funext b;simp only[live,E])
 have hB:live C.X x.S B.b:=Q2 hk;have H:∀b,b<w.heap.size→¬live C.X x.S b→(w.setCells B.b o' vs).heap[b]?=w.heap[b]?∧¬live C.X x.S b:=fun b _ hn=>⟨i2 b (fun e=>hn (e ▸ hB)),hn⟩
 refine⟨⟨h.defers,h.size,fun t ht=>?_,⟨fun B' Nl=>?_,?_⟩,?_,h.ex,h.eP⟩,⟨by rw[i3];exact Nat.le_refl _,fun b _ hn=>i2 b (by simpa using hn)⟩,?_⟩
 ·simp only[I];exact(h.env t ht).mono H
 ·simp only[I];obtain⟨j,hj,O⟩:=mem_iff_getElem.1 Nl;rw[length_set] at hj;rw[getElem_set] at O;by_cases e:k=j
  ·rw[if_pos e] at O;subst O;refine⟨by rw[i3];exact h0,_,i1.trans (by rw[kp hne]),?_,by simp only[yD];exact h3,fun i hi=>?_⟩
   ·have:=EB vs.zipIdx cur o';have hlen:=congrArg length this;have aiK:∀(l:List (Value×Nat)) (c:List Value),(l.foldl (fun cs (x:Value×Nat)=>cs.set (o'+x.2) x.1) c).length=c.length:=by
     intro l;induction l with
     | nil=>intro c;rfl
     | cons p l ih=>intro c;rw[foldl_cons,ih];simp
    rw[aiK] at hlen;simp only[Array.length_toList] at hlen;rw[hlen,h2]
   have dH:cQ w (live C.X x.S) B.cs (cur.toList.take B.cs.length):=by
    refine⟨by simp;omega,fun i q1 q2=>?_⟩;obtain⟨u,hu,hq⟩:=h4 i q1;have:(cur.toList.take B.cs.length)[i]=u:=by
     rw[getElem_take];rw[←Array.getElem?_toList,List.getElem?_eq_some_iff] at hu;exact hu.2
    rw[this];exact hq
   have U:=cQ.dw ds vs B.cs (cur.toList.take B.cs.length) o' hr dH;have Vh:∀(l:List (Value×Nat)) (c:List Value),(∀p∈l,o'+p.2<B.cs.length)→l.foldl (fun cs (x:Value×Nat)=>cs.set (o'+x.2) x.1) (c.take B.cs.length)=(l.foldl (fun cs (x:Value×Nat)=>cs.set (o'+x.2) x.1) c).take B.cs.length:=by
    intro l;induction l with
    | nil=>intro c _;rfl
    | cons p l ih =>
     intro c hp;rw[foldl_cons,foldl_cons,←ih _ (fun q hq=>hp q (mem_cons_of_mem _ hq)),take_set]
   rw[Vh vs.zipIdx cur.toList (fun p hp=>by have:=mem_zipIdx hp;omega),←EB] at U;simp only at hi;have Ho:=hi;rw[←U.1] at Ho;have hq:=U.2 i hi Ho;rw[getElem_take] at hq;refine⟨_,?_,hq.mono H⟩;rw[←Array.getElem?_toList,getElem?_eq_getElem]
  rw[if_neg e] at O;subst O;have hne:x.S[j].b≠B.b:=fun he=>by
   have hn:=h.own.apart;have C5:(aq x.S)[j]'Aq=(aq x.S)[k]'Ao:=(by simp[aq,he,vO])
   have hp:=pairwise_iff_getElem.1 hn;rcases Nat.lt_trichotomy j k with Z|Z|Z
   ·exact hp j k Aq Ao Z C5
   ·exact e Z.symm
   exact hp k j Ao Aq Z C5.symm
  obtain⟨r0,lS,r1,r2,r3,r4⟩:=h.own.at_ x.S[j] (getElem_mem hj);refine⟨by rw[i3];exact r0,lS,(i2 _ hne).trans r1,r2,r3,fun i hi=>?_⟩;obtain⟨u,hu,hq⟩:=r4 i hi;exact⟨u,hu,hq.mono H⟩
 ·simp only[E];exact h.own.apart
 ·refine⟨i4.trans h.fr.os,i5.trans h.fr.tape,i6.trans h.fr.output,by rw[i3];exact h.fr.size,fun b hb hn=>?_⟩;obtain⟨q1,q2⟩:=h.fr.block b hb hn;refine⟨(i2 b (fun e=>q2 (e ▸ mem_map.2 ⟨B,mem_of_getElem? hk,rfl⟩))).trans q1,?_⟩;simp only[E];exact q2
 rw[E];exact⟨i4,i5,i6,by rw[i3];exact Nat.le_refl _,fun b hb hn=>⟨i2 b (fun e=>hn (e ▸ mem_map.2 ⟨B,mem_of_getElem? hk,rfl⟩)),hn⟩⟩
theorem EC {d:D} {z:Operand} (ho:o.op = .store t y z) (jI:o.dst=none) (hy:aF x y = .v (.pointer (some ⟨b,o',none⟩)))
  (hk:x.S[k]?=some B) (hb:B.b=b) (hz:aF x z=d) (hj:d≠.bU) (h1:(cellsOf d).all one=true) (hn:∀w,(sizeOf t).run P w = .ok n w) (gi:(cellsOf d).length=n) (hl:o'+n≤B.cs.length) (dH:dw B.cs o' (cellsOf d)=cs') (hne:isMap B.e=false:=by rfl) :
  fP P G x o [b] (fun y=>y=⟨x.n,x.env,x.S.set k {B with cs:=cs'}⟩):=fun C a w K Q hG h hK=>by
 subst dH hb;have hr:=h.eval z;rw[hz] at hr;have hc:=hr.cells hj;obtain⟨s1,s2,s3⟩:=h.store hk hc (o':=o') w4 hne;obtain⟨h0,cur,q1,q2,q3,q4⟩:=h.fC hk;rw[kp hne] at q1;have U:(a.eval z).cells.toList.length=n:=(by rw[hc.1,gi])
 have E:=run_storeCells_cells (P:=P) B.b o' (a.eval z).cells.toList 0 w (fun j hj=>by
   have:(o'+0+j)<cur.size:=(by omega)
   rw[nZ q1 (u:=cur[o'+0+j]) (by simp[this])];rfl)
  (fun j hj=>by unfold World.frozen?;simp[q1]) (fun v hv=>by
   obtain⟨j,hj,rfl⟩:=mem_iff_getElem.1 hv;have O:j<(cellsOf d).length:=(by rw[←hc.1];exact hj)
   exact(hc.2 j O hj).Bn (all_eq_true.1 h1 _ (getElem_mem O)))
 have I:(execOp a.eval o).run P w = .ok .skip (w.setCells B.b o' (a.eval z).cells.toList):=by
  unfold execOp;have Z:(a.eval z).cells.size=n:=(by simpa using U)
  simp only[Nat.add_zero] at E;simp[ho,h.flat hy,Instr.storeAt,Instr.sureAddr,storeVar,hn,Z,E]
 unfold Oper.wp;rw[I,Oper.upon_skip,jI];exact hK _ _ _ rfl s1 s2 s3

structure Hp (G:List (Nat×List Value)) (X:Nat→Prop) (w:World) (S:List ah) (args:List D) (vs:List Value):Prop where
 ex:∀b,X b→b<w.heap.size∧b∉aq S
 eP:∀g∈G,(g.1<w.heap.size∧g.1∉aq S∧¬X g.1)∧∀i v,g.2[i]?=some v→n9 w g.1 i v
 own:Own w (live X S) S
 args:cQ w (live X S) args vs
def VC(P:Program)(G:List (Nat×List Value))(f:FuncId)(args:List D)(S:List ah)(post:D→List ah→Prop):Prop :=
 ∀(X:Nat→Prop) (w:World) (vs:List Value),Hp G X w S args vs→Calls P f vs.toArray w fun e w'=>∃v r S',e = .returned v∧post r S'∧Own w' (live X S') S'∧cq w' (live X S') r v∧Fr w (aq S) w' (aq S')
abbrev VP(P:Program)(G:List (Nat×List Value))(f:FuncId)(args:List D)(r:D):Prop:=VC P G f args [] fun r' S'=>r'=r∧S'=[]
theorem yG(hp:S.Perm (Sf++R)):live X S=live (fun b=>X b∨b∈aq R) Sf:=by
 funext b;have:(aq S).Perm (aq Sf++aq R):=(by have:=hp.map ah.b;simpa[aq] using this)
 have:=this.mem_iff (a:=b);simp only[live,mem_append] at *;rw[this];exact propext ⟨fun h=>by rcases h with h|h|h<;>simp[h],fun h=>by rcases h with (h|h)|h<;>simp[h]⟩
theorem bH.call{w:World}(h:bH C x a w)(hG:C.G=G){f:FuncId}{args:List D}{vs:List Value}(hc:VC P G f args Sf post)(hp:x.S.Perm (Sf++R))(hr:cQ w (live C.X x.S) args vs) :
  Calls P f vs.toArray w fun e w'=>∃v r S',e = .returned v∧post r S'∧cq w' (live C.X (S'++R)) r v∧bH C ⟨x.n,x.env,S'++R⟩ a w'∧l8 (aq Sf) w w'∧Fr w (aq x.S) w' (aq (S'++R)):=by
 have hb:(aq x.S).Perm (aq Sf++aq R):=(by have:=hp.map ah.b;simpa[aq] using this)
 have hL:=yG (X:=C.X) hp;have hnd:(aq Sf++aq R).Nodup:=hb.nodup_iff.1 h.own.apart;obtain⟨n1,n2,n3⟩:=nodup_append.1 hnd;have U:∀b,b∈aq R→b<w.heap.size:=fun b x5=>by
  obtain⟨B,O,rfl⟩:=mem_map.1 x5;exact(h.own.at_ B (hp.symm.subset (mem_append_right _ O))).1
 have Z:Hp G (fun b=>C.X b∨b∈aq R) w Sf args vs:=by
  refine⟨fun b hx=>?_,fun g hg=>?_,⟨fun B O=>?_,n1⟩,?_⟩
  ·rcases hx with hx|hx
   ·obtain⟨q1,q2⟩:=h.ex b hx;exact⟨Nat.lt_of_lt_of_le q1 h.fr.size,fun hm=>(h.fr.block b q1 q2).2 (hb.symm.subset (mem_append_left _ hm))⟩
   exact⟨U b hx,fun hm=>n3 b hm b hx rfl⟩
  ·rw[←hG] at hg;obtain⟨⟨q1,q2,q3⟩,q4⟩:=h.eP g hg;have q5:=(h.fr.block g.1 q1 q2).2;refine⟨⟨Nat.lt_of_lt_of_le q1 h.fr.size,fun hm=>q5 (hb.symm.subset (mem_append_left _ hm)),fun hx=>?_⟩,fun i v hi=>h.aT hg hi⟩;rcases hx with hx|hx
   ·exact q3 hx
   exact q5 (hb.symm.subset (mem_append_right _ hx))
  ·rw[←hL];exact h.own.at_ B (hp.symm.subset (mem_append_left _ O))
  rw[←hL];exact hr
 refine(hc _ w vs Z).mono fun e w' ⟨v,r,S',h1,h2,h3,h4,h5⟩=>⟨v,r,S',h1,h2,?_,?_,⟨h5.size,fun b I hn=>(h5.block b I hn).1⟩,?_⟩
 ·have:live C.X (S'++R)=live (fun b=>C.X b∨b∈aq R) S':=yG (Perm.refl _);rw[this];exact h4
 ·have X2:live C.X (S'++R)=live (fun b=>C.X b∨b∈aq R) S':=yG (Perm.refl _);have H:∀b,b<w.heap.size→¬live C.X x.S b→w'.heap[b]?=w.heap[b]?∧¬live C.X (S'++R) b:=fun b aa hn=>by
   rw[hL] at hn;have E:b∉aq Sf:=fun hm=>hn (.inr hm);obtain⟨q1,q2⟩:=h5.block b aa E;refine⟨q1,fun hl=>?_⟩;rw[X2] at hl;rcases hl with hl|hl
   ·exact hn (.inl hl)
   exact q2 hl
  refine⟨h.defers,h.size,fun t ht=>(h.env t ht).mono H,⟨fun B O=>?_,?_⟩,?_,h.ex,h.eP⟩
  ·rcases mem_append.1 O with O|O
   ·have:=h3.at_ B O;rw[←X2] at this;exact this
   obtain⟨r0,cur,r1,r2,r3,r4⟩:=h.own.at_ B (hp.symm.subset (mem_append_right _ O));have C6:B.b∈aq R:=mem_map.2 ⟨B,O,rfl⟩;have E:B.b∉aq Sf:=fun hm=>n3 B.b hm B.b C6 rfl;have hh:=(h5.block B.b r0 E).1;refine⟨qS r0 hh,cur,hh.trans r1,r2,r3,fun i hi=>?_⟩;obtain⟨u,hu,hq⟩:=r4 i hi;exact⟨u,hu,hq.mono H⟩
  ·show(aq (S'++R)).Nodup;have:aq (S'++R)=aq S'++aq R:=(by simp[aq])
   rw[this];refine nodup_append.2 ⟨h3.apart,n2,fun b jh c aY he=>?_⟩;subst he;have E:b∉aq Sf:=fun hm=>n3 b hm b aY rfl;exact(h5.block b (U b aY) E).2 jh
  refine⟨h5.os.trans h.fr.os,h5.tape.trans h.fr.tape,h5.output.trans h.fr.output,Nat.le_trans h.fr.size h5.size,fun b I hn=>?_⟩;obtain⟨q1,q2⟩:=h.fr.block b I hn;have gv:b∉aq Sf:=fun hm=>q2 (hb.symm.subset (mem_append_left _ hm));have iU:b∉aq R:=fun hm=>q2 (hb.symm.subset (mem_append_right _ hm));obtain⟨q3,q4⟩:=h5.block b (Nat.lt_of_lt_of_le I h.fr.size) gv;refine⟨q3.trans q1,fun hm=>?_⟩;have:aq (S'++R)=aq S'++aq R:=(by simp[aq])
  rw[this] at hm;rcases mem_append.1 hm with hm|hm
  ·exact q4 hm
  exact iU hm
 refine⟨h5.os,h5.tape,h5.output,h5.size,fun b I hn=>?_⟩;have gv:b∉aq Sf:=fun hm=>hn (hb.symm.subset (mem_append_left _ hm));have iU:b∉aq R:=fun hm=>hn (hb.symm.subset (mem_append_right _ hm));obtain⟨q3,q4⟩:=h5.block b I gv;refine⟨q3,fun hm=>?_⟩;have:aq (S'++R)=aq S'++aq R:=(by simp[aq])
 rw[this] at hm;rcases mem_append.1 hm with hm|hm
 ·exact q4 hm
 exact iU hm
theorem cQ.LC{w:World}(h:bH C x a w)(di:List Operand):cQ w (live C.X x.S) (di.map (aF x)) (di.map a.eval) :=
 ⟨by simp,fun i h1 h2=>by simp only[getElem_map];exact h.eval _⟩
theorem cQ.append{w:World}{E:List D}{vs I:List Value}(h:cQ w L ds vs)(h':cQ w L E I):cQ w L (ds++E) (vs++I) :=
 ⟨by simp[h.1,h'.1],fun i h1 h2=>by
  by_cases hi:i<ds.length
  ·rw[getElem_append_left hi,getElem_append_left (by rw[h.1];exact hi)];exact h.2 i _ _
  rw[getElem_append_right w4,getElem_append_right (by rw[h.1];omega)];have:=h.1;simp only[this];exact h'.2 _ _ _⟩
def called(x:St)(t:Nat)(R:List ah)(post:D→List ah→Prop)(y:St):Prop:=∃r S',post r S'∧y=⟨x.n,(t,r)::x.env,S'++R⟩
theorem Bo {f t:Nat} {args:List D} (ho:o.op = .call {callee:=.value fo,args:=di,argTypes:=ts}) (hd:o.dst=some t)
  (hf:fo = .func f) (fm:∀args w,(callFunc f args).run P w = .ok (.enter f args) w) (ha:di.toList.map (aF x)=args) (hp:x.S.Perm (Sf++R)) (hc:VC P G f args Sf post) :
  fP P G x o (aq Sf) (called x t R post):=fun C a w K Q hG h hK=>by
 subst hf ha;have hr:=cQ.LC h di.toList;have E:(execOp a.eval o).run P w = .ok (.enter f (di.toList.map a.eval).toArray) w:=by
  unfold execOp;have e:di.map a.eval=(di.toList.map a.eval).toArray:=by
   rw[←Array.toList_map,Array.toArray_toList]
  simp only[ho,resolve,Act.eval,Deferred.ofValue,Sem.run_bind,Sem.run_pure,Result.andThen_ok,invoke,e];simp[fm]
 unfold Oper.wp;rw[E,Oper.upon_enter,hd];refine(h.call hG hc hp hr).mono fun e w' ⟨v,r,S',h1,h2,h3,h4,h5,h6⟩=>?_;subst h1;exact hK _ _ _ ⟨r,S',h2,rfl⟩ (h4.put h3) h5 h6
theorem aaU {f t:Nat} {args E:List D} (ho:o.op = .call {callee:=.value fo,args:=di,argTypes:=ts}) (hd:o.dst=some t)
  (hf:aF x fo = .ez (.func f) E) (fm:∀args w,(callFunc f args).run P w = .ok (.enter f args) w) (ha:di.toList.map (aF x)++E=args) (hp:x.S.Perm (Sf++R)) (hc:VC P G f args Sf post) :
  fP P G x o (aq Sf) (called x t R post):=fun C a w K Q hG h hK=>by
 subst ha;have hr:=cQ.LC h di.toList;have fO:=h.eval fo;rw[hf] at fO;generalize hg:a.eval fo=u at fO;cases fO with
 | ez _ _ vs hl Xe =>
  have I:(execOp a.eval o).run P w = .ok (.enter f (di.toList.map a.eval++vs).toArray) w:=by
   unfold execOp;have e:di.map a.eval++vs.toArray=(di.toList.map a.eval++vs).toArray:=by
    rw[←append_toArray,←Array.toList_map,Array.toArray_toList]
   simp only[ho,resolve,hg,Deferred.ofValue,Sem.run_bind,Sem.run_pure,Result.andThen_ok,invoke];simp[fm]
  unfold Oper.wp;rw[I,Oper.upon_enter,hd];refine(h.call hG hc hp (hr.append ⟨hl,Xe⟩)).mono fun e w' ⟨v,r,S',h1,h2,h3,h4,h5,h6⟩=>?_;subst h1;exact hK _ _ _ ⟨r,S',h2,rfl⟩ (h4.put h3) h5 h6
theorem uI(hk:S[k]?=some B):S.Perm (B::S.eraseIdx k):=by
 obtain⟨h1,h2⟩:=List.getElem?_eq_some_iff.1 hk;subst h2;clear hk;induction S generalizing k with
 | nil=>simp at h1
 | cons A S ih =>
  cases k with
  | zero=>exact Perm.refl _
  | succ k =>
   have E:k<S.length:=(by simpa using h1)
   rw[eraseIdx_cons_succ];exact((ih E).cons A).trans (Perm.swap _ _ _)
theorem eO(S:List ah):S.Perm ([]++S):=Perm.refl _
theorem ko(hk:S[k]?=some B):S.Perm ([B]++S.eraseIdx k):=uI hk
theorem Bp{k':Nat}{B':ah}(hk:S[k]?=some B)(E:(S.eraseIdx k)[k']?=some B'):S.Perm ([B,B']++(S.eraseIdx k).eraseIdx k'):=(uI hk).trans ((uI E).cons B)
theorem cq.wX{w:World}(h:Own w (live X S) S)(I:∀b,X b→b∉aq S)(hk:S[k]?=some B)(hl:B.cs.length=n*sz)(h1:n≤cap)(h2:cap≤maxLen)(hne:isMap B.e=false:=by rfl) :
  cq w (live X (S.eraseIdx k)) (.list sz B.cs n) (.slice (some ⟨B.b,0,none⟩) n cap):=by
 have hm:=mem_of_getElem? hk;obtain⟨r0,cur,r1,r2,r3,r4⟩:=h.at_ B hm;rw[kp hne] at r1;have E:(aq (S.eraseIdx k)).Sublist (aq S):=Sublist.map _ (eraseIdx_sublist S k);have hL:¬live X (S.eraseIdx k) B.b:=fun hl=>by
  rcases hl with hl|hl
  ·exact I _ hl (mem_map.2 ⟨B,hm,rfl⟩)
  have hp:(aq S).Perm (B.b::aq (S.eraseIdx k)):=(by have:=(uI hk).map ah.b;simpa[aq] using this)
  have hnd:=hp.nodup_iff.1 h.apart;exact(nodup_cons.1 hnd).1 hl
 refine .list sz B.cs n B.b 0 cap (fun i=>cur.getD i undef) hl h1 h2 r0 hL (fun i hi=>?_) (fun i hi=>?_)
 ·obtain⟨u,hu,_⟩:=r4 i hi;rw[Nat.zero_add,nZ r1 hu];simp[hu]
 obtain⟨u,hu,hq⟩:=r4 i hi;simp only[Array.getD_eq_getD_getElem?,hu,Option.getD_some];exact hq.mono fun b _ hn=>⟨rfl,fun hl=>hn (hl.imp id fun q=>E.subset q)⟩
theorem bH.AB{w:World}(h:bH C x a w):∀b,C.X b→b∉aq x.S:=fun b hb=>(h.fr.block b (h.ex b hb).1 (h.ex b hb).2).2
theorem Wk.vn{t:Nat}{cs:List D}(hk:S[k]?=some B)(ht:look t l = .v (.slice (some ⟨B.b,0,none⟩) m cap))(dH:B.cs=cs)(hl:cs.length=m*sz)(h1:m≤cap)(h2:cap≤maxLen)(hne:isMap B.e=false:=by rfl) :
  Wk ⟨n,l,S⟩ ⟨n,(t,.list sz cs m)::l,S.eraseIdx k⟩:=fun C a w h=>by
 subst dH;have hd:=Wk.drop n l S (S.eraseIdx k) (eraseIdx_sublist S k) C a w h;refine⟨hd.defers,hd.size,fun i hi=>?_,hd.own,hd.fr,hd.ex,hd.eP⟩;simp only[fU];by_cases e:t=i
 ·subst e;rw[if_pos rfl];have E:=h.env t hi;simp only[ht] at E;rw[E.kV];exact cq.wX h.own h.AB hk hl h1 h2 hne
 rw[if_neg e];exact hd.env i hi
theorem Wk.tL{t:Nat}(ht:look t l = .v (.slice none 0 0)):Wk ⟨n,l,S⟩ ⟨n,(t,.list sz [] 0)::l,S⟩:=fun C a w h=>by
 refine⟨h.defers,h.size,fun i hi=>?_,h.own,h.fr,h.ex,h.eP⟩;simp only[fU];by_cases e:t=i
 ·subst e;rw[if_pos rfl];have E:=h.env t hi;simp only[ht] at E;rw[E.kV];exact .nil sz
 rw[if_neg e];exact h.env i hi
theorem Wk.afR {A:ah} {cs:List D} (hk:S[k]?=some B) (hj:(S.eraseIdx k)[j]?=some A) (hi:A.cs[i]?=some (.v (.slice (some ⟨B.b,0,none⟩) m cap))) (dH:B.cs=cs) (hl:cs.length=m*sz) (h1:m≤cap) (h2:cap≤maxLen)
  (U:A.cs.set i (.list sz cs m)=cs') (hS:(S.eraseIdx k).set j {A with cs:=cs'}=S') (hne:isMap B.e=false:=by rfl):Wk ⟨n,l,S⟩ ⟨n,l,S'⟩:=fun C a w h=>by
 subst dH U hS;have hd:=Wk.drop n l S (S.eraseIdx k) (eraseIdx_sublist S k) C a w h;have Z:=cq.wX h.own h.AB hk hl h1 h2 hne;have l9:=(List.getElem?_eq_some_iff.1 hj).1;have hjA:=(List.getElem?_eq_some_iff.1 hj).2;have E:aq ((S.eraseIdx k).set j {A with cs:=A.cs.set i (.list sz B.cs m)})=aq (S.eraseIdx k):=by
  unfold aq;rw[map_set];apply ext_getElem bf;intro i q1 q2;rw[getElem_set];split
  ·rename_i e;subst e;simp[hjA]
  rfl
 have I:live C.X ((S.eraseIdx k).set j {A with cs:=A.cs.set i (.list sz B.cs m)})=live C.X (S.eraseIdx k):=(by funext b;simp only[live,E])
 refine⟨hd.defers,hd.size,fun t ht=>?_,⟨fun B' Nl=>?_,?_⟩,?_,hd.ex,hd.eP⟩
 ·simp only[I];exact hd.env t ht
 ·simp only[I];obtain⟨p,hp,gS⟩:=mem_iff_getElem.1 Nl;rw[length_set] at hp;rw[getElem_set] at gS;by_cases e:j=p
  ·rw[if_pos e] at gS;subst gS;obtain⟨r0,cur,r1,r2,r3,r4⟩:=hd.own.at_ A (mem_of_getElem? hj);refine⟨r0,cur,r1,r2,by simpa using r3,fun q hq=>?_⟩;simp only[length_set] at hq;obtain⟨u,hu,O⟩:=r4 q hq;refine⟨u,hu,?_⟩;rw[getElem_set];split
   ·rename_i he;subst he;have:=(List.getElem?_eq_some_iff.1 hi).2;rw[this] at O;rw[O.kV];exact Z
   exact O
  rw[if_neg e] at gS;subst gS;exact hd.own.at_ _ (getElem_mem hp)
 ·simp only[E];exact hd.own.apart
 simp only[E];exact hd.fr

def SU(x:St)(t:Nat)(e:TypeId)(sz len:Nat)(cs:List D)(S:List ah)(y:St):Prop :=
 ∃b cap,len≤cap∧cap≤maxLen∧y=⟨x.n,(t,.v (.slice (some ⟨b,0,none⟩) len cap))::x.env,⟨b,e,cap*sz,cs⟩::S⟩
theorem bH.grown {w:World} (h:bH C x a w) {t g e:Nat} {row:Option Nat} {cs:List D}
  (hS:S.Sublist x.S) (I:∀k,row=some k→k∈aq x.S∧k∉aq S) (E:w.grownBy w' row) (hg:row=some g∨g=w.heap.size) (aa:g<w'.heap.size)
  (Co:w'.heap[g]?=some (.cells cur e (0,0))) (ir:cur.size=cap*sz) (hl:cs.length≤cap*sz) (hr:∀i (h:i<cs.length),∃u,cur[i]?=some u∧cq w (live C.X x.S) cs[i] u) (hne:isMap e=false:=by rfl) :
  bH C ⟨x.n,(t,.v (.slice (some ⟨g,0,none⟩) m cap))::x.env,⟨g,e,cap*sz,cs⟩::S⟩ (a.put (some t) (.slice (some ⟨g,0,none⟩) m cap)) w'∧l8 row.toList w w'∧Fr w (aq x.S) w' (aq (⟨g,e,cap*sz,cs⟩::S)):=by
 have O:(aq S).Sublist (aq x.S):=Sublist.map _ hS;have Z:∀b,live C.X x.S b→b<w.heap.size:=fun b hb=>by
  rcases hb with hb|hb
  ·exact Nat.lt_of_lt_of_le (h.ex b hb).1 h.fr.size
  obtain⟨B,hB,rfl⟩:=mem_map.1 hb;exact(h.own.at_ B hB).1
 have AE:g∉aq S:=by
  rcases hg with hg|hg
  ·exact(I g hg).2
  intro hm;have:=Z g (.inr (O.subset hm));omega
 have hgX:¬C.X g:=fun hx=>by
  rcases hg with hg|hg
  ·exact h.AB g hx (I g hg).1
  have:=Z g (.inl hx);omega
 have U:g<w.heap.size→g∈aq x.S:=fun aa=>by
  rcases hg with hg|hg
  ·exact(I g hg).1
  omega
 have H:∀b,b<w.heap.size→¬live C.X x.S b→w'.heap[b]?=w.heap[b]?∧¬live C.X (⟨g,e,cap*sz,cs⟩::S) b:=fun b hb hn=>by
  refine⟨E.block b hb (fun hm=>hn (.inr (I b hm.symm).1)),fun hl=>?_⟩;rcases hl with hl|hl
  ·exact hn (.inl hl)
  simp only[aq,map_cons,mem_cons] at hl;rcases hl with hl|hl
  ·subst hl;exact hn (.inr (U hb))
  exact hn (.inr (O.subset hl))
 have base:bH C ⟨x.n,x.env,⟨g,e,cap*sz,cs⟩::S⟩ a w':=by
  refine⟨h.defers,h.size,fun t ht=>(h.env t ht).mono H,⟨fun B hB=>?_,?_⟩,?_,h.ex,h.eP⟩
  ·rcases mem_cons.1 hB with rfl|hB
   ·refine⟨aa,cur,Co.trans (by rw[kp hne]),ir,hl,fun i hi=>?_⟩;obtain⟨u,hu,hq⟩:=hr i hi;exact⟨u,hu,hq.mono H⟩
   obtain⟨r0,lS,r1,r2,r3,r4⟩:=h.own.at_ B (hS.subset hB);have C6:B.b∈aq S:=mem_map.2 ⟨B,hB,rfl⟩;have hh:=E.block B.b r0 (fun hm=>(I B.b hm.symm).2 C6);refine⟨qS r0 hh,lS,hh.trans r1,r2,r3,fun i hi=>?_⟩;obtain⟨u,hu,hq⟩:=r4 i hi;exact⟨u,hu,hq.mono H⟩
  ·show(g::aq S).Nodup;exact nodup_cons.2 ⟨AE,h.own.apart.sublist O⟩
  refine⟨E.os.trans h.fr.os,E.tape.trans h.fr.tape,E.output.trans h.fr.output,Nat.le_trans h.fr.size E.size,fun b hb hn=>?_⟩;obtain⟨q1,q2⟩:=h.fr.block b hb hn;have jx:=Nat.lt_of_lt_of_le hb h.fr.size;refine⟨(E.block b jx (fun hm=>q2 (I b hm.symm).1)).trans q1,fun hm=>?_⟩;simp only[aq,map_cons,mem_cons] at hm;rcases hm with hm|hm
  ·subst hm;exact q2 (U jx)
  exact q2 (O.subset hm)
 refine⟨base.put (.v _),⟨E.size,fun b hb hn=>E.block b hb (fun hm=>hn (by rw[←hm];simp))⟩,⟨E.os,E.tape,E.output,E.size,fun b hb hn=>?_⟩⟩;refine⟨E.block b hb (fun hm=>hn (I b hm.symm).1),fun hm=>?_⟩;simp only[aq,map_cons,mem_cons] at hm;rcases hm with hm|hm
 ·subst hm;exact hn (U hb)
 exact hn (O.subset hm)
theorem A9 {s:Operand} {t:Nat} {I:Value} {w:World} (ho:o.op = .call {callee:=.builtin .append,args:=#[s,y],argTypes:=#[t,t]}) (hs:a.eval s=v) (hy:a.eval y=u)
  (E:(Builtin.append_ #[t,t] o.type #[v,u]).run P w = .ok I w'):(execOp a.eval o).run P w = .ok (.value I) w':=by
 unfold execOp;simp[ho,resolve,invoke,builtin,hs,hy,E]
theorem yV{e:Nat}{z:Value}(hi:(P.info? e).map (fun i=>(i.zero,i.size,i.bytes))=some (some z,sz,bytes)):∃i,P.info? e=some i∧i.zero=some z∧i.size=sz∧i.bytes=bytes:=by
 cases h:P.info? e with
 | none=>simp[h] at hi
 | some i=>simp[h] at hi;exact⟨i,rfl,hi⟩
theorem Pm {s:Operand} {t e:Nat} {z:Value} {cs:List D} (ho:o.op = .call {callee:=.builtin .append,args:=#[s,y],argTypes:=#[t,t]}) (hd:o.dst=some tt)
  (ht:P.underlying t=some (.slice e)) (hi:(P.info? e).map (fun i=>(i.zero,i.size,i.bytes))=some (some z,sz,bytes)) (eU:z.cells.size=sz) (ir:0<sz)
  (hs:aF x s = .v (.slice (some ⟨b,0,none⟩) n cap)) (hk:x.S[k]?=some B) (hb:B.b=b) (he:B.e=e) (aoX:B.size=cap*sz) (hl:B.cs.length=n*sz) (hn:n≤cap) (Z:cap≤maxLen)
  (hy:aF x y = .list sz cs m) (iA:∀d∈cs,one d=true) (hm:0<m) (gw:n+m≤maxLen) (O:(n+m)*bytes≤140737488355328) (hne:isMap B.e=false:=by rfl) :
  fP P G x o [b] (SU x tt e sz (n+m) (B.cs++cs) (x.S.eraseIdx k)):=fun C a w K Q hG h hK=>by
 subst hb he;obtain⟨i,kg,mb,o8,p9⟩:=yV hi;obtain⟨r0,cur,r1,r2,r3,r4⟩:=h.fC hk;rw[kp hne] at r1;have hr:=h.eval y;rw[hy] at hr;generalize hg:a.eval y=u at hr;cases hr with
 | mq=>omega
 | list _ _ _ b' o' I f mc q1 q2 jx hL hc AF =>
  have kH:w.ownsRow 0 B.e sz (.slice (some ⟨B.b,0,none⟩) n cap) n (cur.toList.take (n*sz)) :=
   ⟨by simp;omega,.inr ⟨B.b,cap,cur,rfl,Nat.zero_le _,r1,hn,Z,by omega,rfl⟩⟩
  obtain⟨v',w',nL,h2,h3,_,h5⟩:=run_append_own_at (P:=P) w 0 t o.type B.e i z sz bytes ht kg mb o8 p9 eU ir _ n _ kH ⟨b',o',none⟩ m I ((range cs.length).map f) (by simp[mc]) (fun j u hu=>by
    rw[Addr.add_mid];obtain⟨hj,he⟩:=List.getElem?_eq_some_iff.1 hu;simp only[length_map,length_range] at hj;rw[hc j hj,←he];simp) (fun u hu=>by
    obtain⟨j,hj,rfl⟩:=mem_map.1 hu;have jy:=mem_range.1 hj;exact(AF j jy).Bn (iA _ (getElem_mem jy))) gw O (Nat.zero_le _)
  obtain⟨g,E,rfl,_,aa⟩:=h2.form w4;have h6:(Value.slice (some ⟨B.b,0,none⟩) n cap).ownBlock=some g∨g=w.heap.size:=by
   rcases h5 with h5|h5
   ·exact .inl (by rw[←h5];rfl)
   right;simpa[Value.ownBlock] using h5
  obtain⟨_,h2⟩:=h2;rcases h2 with ⟨h2,_⟩|⟨g',I,lS,e1,_,e2,e3,e4,e5,e6⟩
  ·cases h2
  have C7:g=g'∧E=I:=(by simpa using e1)
  obtain⟨rfl,rfl⟩:=C7;have hlen:(B.cs++cs).length=(n+m)*sz:=(by rw[length_append,hl,mc,Nat.add_mul])
  have Nn:(n+m)*sz≤E*sz:=Nat.mul_le_mul_right _ e3;have Co:∀i,i<(n+m)*sz→lS[i]?=(cur.toList.take (n*sz)++(range cs.length).map f)[i]?:=fun i hi=>by
   rw[←e6,getElem?_take_of_lt hi,Array.getElem?_toList]
  obtain⟨s1,s2,s3⟩:=h.grown (t:=tt) (m:=n+m) (e:=B.e) (sz:=sz) (S:=x.S.eraseIdx k) (cs:=B.cs++cs) (row:=some B.b) (g:=g) (cap:=E) (eraseIdx_sublist _ _) (fun k' qL=>by
    have:B.b=k':=(by simpa using qL)
    subst this;refine⟨mem_map.2 ⟨B,mem_of_getElem? hk,rfl⟩,fun hm=>?_⟩;have hp:(aq x.S).Perm (B.b::aq (x.S.eraseIdx k)):=(by have:=(uI hk).map ah.b;simpa[aq] using this)
    exact(nodup_cons.1 (hp.nodup_iff.1 h.own.apart)).1 hm) h3 h6 aa e2 e5 w4 (fun i hi=>by
    rw[hlen] at hi;rw[Co i hi];by_cases kj:i<n*sz
    ·obtain⟨u,hu,hq⟩:=r4 i w4;refine⟨u,?_,?_⟩
     ·rw[getElem?_append_left iq,getElem?_take_of_lt kj,Array.getElem?_toList,hu]
     rw[getElem_append_left w4];exact hq
    have U:i-n*sz<cs.length:=(by rw[mc];rw[Nat.add_mul] at hi;omega)
    refine⟨f (i-n*sz),?_,?_⟩
    ·rw[getElem?_append_right iq];have:(cur.toList.take (n*sz)).length=n*sz:=(by simp;omega)
     rw[this];simp[U]
    rw[getElem_append_right w4];have:=AF (i-n*sz) U;simp only[hl];exact this) hne
  unfold Oper.wp;rw[A9 (P:=P) ho (h.flat hs) hg nL,Oper.upon_value,hd];exact hK _ _ _ ⟨g,E,e3,e4,rfl⟩ s1 s2 s3
theorem OU {s:Operand} {t e:Nat} {z:Value} {cs:List D} (ho:o.op = .call {callee:=.builtin .append,args:=#[s,y],argTypes:=#[t,t]}) (hd:o.dst=some tt)
  (ht:P.underlying t=some (.slice e)) (hi:(P.info? e).map (fun i=>(i.zero,i.size,i.bytes))=some (some z,sz,bytes)) (eU:z.cells.size=sz) (ir:0<sz)
  (hs:aF x s = .v (.slice none 0 0)) (hy:aF x y = .list sz cs m) (iA:∀d∈cs,one d=true) (hm:0<m) (gw:m≤maxLen) (O:m*bytes≤140737488355328) (hne:isMap e=false:=by rfl) :
  fP P G x o [] (SU x tt e sz m cs x.S):=fun C a w K Q hG h hK=>by
 obtain⟨i,kg,mb,o8,p9⟩:=yV hi;have hr:=h.eval y;rw[hy] at hr;generalize hg:a.eval y=u at hr;cases hr with
 | mq=>omega
 | list _ _ _ b' o' I f mc q1 q2 jx hL hc U =>
  have Z:w.ownsRow 0 e sz (.slice none 0 0) 0 []:=⟨by simp,.inl ⟨rfl,rfl⟩⟩
  obtain⟨v',w',nL,h2,h3,_,h5⟩:=run_append_own_at (P:=P) w 0 t o.type e i z sz bytes ht kg mb o8 p9 eU ir _ 0 _ Z ⟨b',o',none⟩ m I ((range cs.length).map f) (by simp[mc]) (fun j u hu=>by
    rw[Addr.add_mid];obtain⟨hj,he⟩:=List.getElem?_eq_some_iff.1 hu;simp only[length_map,length_range] at hj;rw[hc j hj,←he];simp) (fun u hu=>by
    obtain⟨j,hj,rfl⟩:=mem_map.1 hu;have jy:=mem_range.1 hj;exact(U j jy).Bn (iA _ (getElem_mem jy))) (by rw[Nat.zero_add];exact gw) (by rw[Nat.zero_add];exact O) (Nat.zero_le _)
  simp only[Nat.zero_add,nil_append] at h2;obtain⟨g,E,rfl,_,aa⟩:=h2.form w4;have h6:(none:Option Nat)=some g∨g=w.heap.size:=by
   rcases h5 with h5|h5
   ·simp[Value.ownBlock] at h5
   right;simpa[Value.ownBlock] using h5
  obtain⟨_,h2⟩:=h2;rcases h2 with ⟨h2,_⟩|⟨g',I,lS,e1,_,e2,e3,e4,e5,e6⟩
  ·cases h2
  have C7:g=g'∧E=I:=(by simpa using e1)
  obtain⟨rfl,rfl⟩:=C7;have Nn:m*sz≤E*sz:=Nat.mul_le_mul_right _ e3;obtain⟨s1,s2,s3⟩:=h.grown (t:=tt) (m:=m) (e:=e) (sz:=sz) (S:=x.S) (cs:=cs) (row:=none) (g:=g) (cap:=E) (Sublist.refl _) (fun k' qL=>by cases qL) h3 h6 aa e2 e5 w4 (fun i hi=>by
    refine⟨f i,?_,U i hi⟩;have:lS[i]?=((range cs.length).map f)[i]?:=(by rw[←e6,getElem?_take_of_lt w4,Array.getElem?_toList])
    rw[this];simp[hi]) hne
  unfold Oper.wp;rw[A9 (P:=P) ho (h.flat hs) hg nL,Oper.upon_value,hd];exact hK _ _ _ ⟨g,E,e3,e4,rfl⟩ s1 s2 s3
theorem OV {s:Operand} {t e:Nat} {cs:List D} (ho:o.op = .call {callee:=.builtin .append,args:=#[s,y],argTypes:=#[t,t]})
  (O:∀w,(underlying t).run P w = .ok (.slice e) w) (E:∀w,(sizeOf e).run P w = .ok sz w) (hs:aF x s = .v (.slice ad n cap)) (hn:n≤cap) (hy:aF x y = .list sz cs 0):bS P G x o .none (.v (.slice ad n cap)):=fun C a w _ h=>by
 refine⟨_,.v _,fun w' _=>?_⟩;have hr:=h.eval y;rw[hy] at hr;generalize hg:a.eval y=u at hr;refine A9 (P:=P) ho (h.flat hs) hg ?_;have U:n+0≤cap:=hn;cases hr with
 | mq _ I kI=>cases I<;>cases ad<;>simp[Builtin.append_,O,E,Builtin.lenOf,Builtin.firstCells,storeCells,loadCells,loadCellsFrom,hn,Nat.not_lt.2 hn]
 | list _ _ _ b' o' kI f mc q1 q2 jx hL hc Z=>cases ad<;>simp[Builtin.append_,O,E,Builtin.lenOf,Builtin.firstCells,storeCells,loadCells,loadCellsFrom,hn,Nat.not_lt.2 hn]

end Go.Proofs.YtdgichenhdikgaaGreatDoor.V
namespace Go.Proofs.YtdgichenhdikgaaGreatDoor.V
open List
open Go.RowKit
variable {g t n:Nat} {E b:Bool} {l':List (Nat×D)} {S':List ah} {c:Code} {ds:List D} {fn:Func} {L:Nat→Prop} {r1 r2:ResultVar}
def LQ(C:dN)(Q:Exit→St→Prop):Exit→Act→World→Prop:=fun e a w=>(∃y,bH C y a w∧Q e y)∨(e = .ret∧C.C4 a w)
def CD(P:Program)(C:dN)(c:Code)(x:St)(Q:Exit→St→Prop):Prop:=∀a w,bH C x a w→c.wp P (LQ C Q) a w
def OD(P:Program)(C:dN)(ops:Array Oper)(l:List Oper)(x:St)(Q:Exit→St→Prop):Prop:=∀a w,bH C x a w→wpList P ops (LQ C Q) l a w
variable {P:Program} {C:dN} {Q:Exit→St→Prop} {x y:St} {ops:Array Oper} {l:List Oper} {o:Oper}
def cc(ops:Array Oper)(x:St)(o:Oper)(b:Bool):Prop:=∀C a w,bH C x a w→Region.wanted o (yielded ops a.tmps)=b
theorem rU(h:o.guard=none):cc ops x o true:=fun C a w _=>by simp[Region.wanted,h]
theorem Q3(h:o.guard=some (g,E))(hg:(ops[g]?).bind (·.dst)=some t)(ht:t<x.n)(hb:look t x.env = .v (.bool b)):cc ops x o (b==E):=fun C a w hs=>by
 have I:=hs.env t ht;rw[hb] at I;have I:=I.kV;have O:=hs.size;have:a.tmps[t]?=some (.bool b):=by
  rw[Array.getD_eq_getD_getElem?,Array.getElem?_eq_getElem w4] at I;rw[Array.getElem?_eq_getElem w4];simpa using I
 simp only[Region.wanted,h,yielded,hg,Option.bind_some,this];cases b<;>cases E<;>rfl
theorem fD{d:D}{r:List (Nat×D)}:look t ((t,d)::r)=d:=by rw[fU,if_pos rfl]
theorem fV{d d':D}{r:List (Nat×D)}(h:d=d'):look t ((t,d)::r)=d':=by rw[fU,if_pos rfl,h]
theorem fH{i:Nat}{d d':D}{r:List (Nat×D)}(h:Nat.beq i t=false)(k:look t r=d'):look t ((i,d)::r)=d':=by rw[look,h];exact k
theorem bI{v:Value}{x:St}:aF x (.const v) = .v v:=rfl
theorem tv{f:FuncId}{x:St}:aF x (.func f) = .ez (.func f) []:=rfl
theorem wq{x:St}:aF x (.global g) = .v (.pointer (some ⟨g,0,none⟩)):=rfl
theorem tJ{d:D}{x:St}(h:Nat.blt t x.n=true)(k:look t x.env=d):aF x (.tmp t)=d:=by simp only[aF,h,k];rfl
theorem lk{l:List (Nat×D)}{d:D}(h:look t l=d:=by (repeat (first|exact fD|(apply fH;focus rfl)|exact look_nil));first|done|fail):look t l=d:=h
theorem ot{d:D}{x:St}(h:Nat.blt t x.n=true:=by exact rfl)(k:look t x.env=d:=by (repeat (first|exact fD|(apply fH;focus rfl)|exact look_nil));first|done|fail):aF x (.tmp t)=d:=tJ h k
def ni(l:List (Nat×D)):List (Nat×D)→Prop
 | []=>True
 | (i,d)::r=>look i l=d∧ni l r
theorem ni.look{l:List (Nat×D)}:∀{l':List (Nat×D)},ni l l'→∀t,V.look t l'=V.look t l∨V.look t l' = .bU
 | [],_,t=>.inr rfl
 | (i,d)::r,h,t=>by
  rw[fU];by_cases e:i=t
  ·subst e;rw[if_pos rfl];exact .inl h.1.symm
  rw[if_neg e];exact h.2.look t
theorem Wk.kx{l:List (Nat×D)}{S:List ah}(h:ni l l'):Wk ⟨n,l,S⟩ ⟨n,l',S⟩:=fun C a w hs =>
 ⟨hs.defers,hs.size,fun t ht=>by
  rcases h.look t with e|e
  ·simp only[e];exact hs.env t ht
  simp only[e];exact .bU _,hs.own,hs.fr,hs.ex,hs.eP⟩
theorem Wk.dV{x:St}(hn:x.n=n)(hS:x.S=S')(h:ni x.env l'):Wk x ⟨n,l',S'⟩:=by
 obtain⟨n0,l0,S0⟩:=x;simp only at hn hS h;subst hn hS;exact Wk.kx h
theorem Wk.asS{x:St}(hn:x.n=n)(hS:S'.Sublist x.S)(h:ni x.env l'):Wk x ⟨n,l',S'⟩:=by
 obtain⟨n0,l0,S0⟩:=x;simp only at hn hS h;subst hn;exact(Wk.drop n0 l0 S0 S' hS).trans (Wk.kx h)
theorem tM{ops:Array Oper}{x:St}{o:Oper}(h:o.guard=some (g,E))(hg:(ops[g]?).bind (·.dst)=some t)(ht:Nat.blt t x.n=true)(hb:look t x.env = .v (.bool b))(hw:b=E):cc ops x o true:=by
 have:=Q3 h hg (Nat.le_of_ble_eq_true ht) hb;rw[hw] at this;simpa using this
theorem mD{ops:Array Oper}{x:St}{o:Oper}(h:o.guard=some (g,E))(hg:(ops[g]?).bind (·.dst)=some t)(ht:Nat.blt t x.n=true)(hb:look t x.env = .v (.bool b))(hw:b = !E):cc ops x o false:=by
 have:=Q3 h hg (Nat.le_of_ble_eq_true ht) hb;rw[hw] at this;cases E<;>simpa using this
theorem JH{ops:Array Oper}{x:St}{o:Oper}{b:Bool}(h:o.guard=some (g,E))(hg:(ops[g]?).bind (·.dst)=some t)(ht:Nat.blt t x.n=true)(hb:look t x.env = .v (.tuple #[])):cc ops x o false:=fun C a w hs=>by
 have I:=hs.env t (Nat.le_of_ble_eq_true ht);rw[hb] at I;have I:=I.kV;have O:=hs.size;have Hq:t<x.n:=Nat.le_of_ble_eq_true ht;have:a.tmps[t]?=some (.tuple #[]):=by
  rw[Array.getD_eq_getD_getElem?,Array.getElem?_eq_getElem w4] at I;rw[Array.getElem?_eq_getElem w4];simpa using I
 simp only[Region.wanted,h,yielded,hg,Option.bind_some,this];cases E<;>rfl
theorem OD.nil(h:Q .normal x):OD P C ops [] x Q:=fun a w hs=>.inl ⟨x,hs,h⟩
theorem OD.fW{W:List Nat}{post:St→Prop}(hw:cc ops x o true)(h:fP P C.G x o W post)(k:∀y,post y→OD P C ops l y Q):OD P C ops (o::l) x Q:=fun a w hs=>by
 unfold wpList;rw[if_pos (hw C a w hs)];exact .inl (h C a w _ _ rfl hs fun y a' w' hp E _ _=>k y hp a' w' E)
theorem OD.still{kd:Rd}{d:D}(hw:cc ops x o true)(hd:o.dst=some t)(h:bS P C.G x o kd d)(k:OD P C ops l (x.put t d) Q):OD P C ops (o::l) x Q :=
 OD.fW hw (h.fW hd) fun y hy=>by subst hy;exact k
theorem OD.skip(hw:cc ops x o false)(hd:o.dst=some t)(k:OD P C ops l (x.put t (.v (.tuple #[]))) Q):OD P C ops (o::l) x Q:=fun a w hs=>by
 unfold wpList;rw[if_neg (by rw[hw C a w hs];simp),hd];exact k _ _ (hs.put (.v _))
theorem OD.wk(h:Wk x y)(k:OD P C ops l y Q):OD P C ops l x Q:=fun a w hs=>k a w (h C a w hs)
theorem CD.wk(h:Wk x y)(k:CD P C c y Q):CD P C c x Q:=fun a w hs=>k a w (h C a w hs)
theorem CD.mono{E:Exit→St→Prop}(h:CD P C c x Q)(k:∀e y,Q e y→E e y):CD P C c x E:=fun a w hs =>
 wp_mono (h a w hs) fun e a' w' h=>h.imp (fun ⟨y,h1,h2⟩=>⟨y,h1,k e y h2⟩) id
theorem CD.skip(h:Q .normal x):CD P C .skip x Q:=fun a w hs=>wp_skip (.inl ⟨x,hs,h⟩)
theorem CD.ret(h:Q .ret x):CD P C .ret x Q:=fun a w hs=>wp_ret (.inl ⟨x,hs,h⟩)
theorem CD.exit{id:Nat}(h:Q (.exit id) x):CD P C (.exit id) x Q:=fun a w hs=>wp_exit (.inl ⟨x,hs,h⟩)
def Cp(P:Program)(C:dN)(c:Code)(Q:Exit→St→Prop):Exit→St→Prop
 | .normal,y=>CD P C c y Q
 | e,y=>Q e y
theorem CD.seq{c d:Code}(h:CD P C c x (Cp P C d Q)):CD P C (.seq c d) x Q:=fun a w hs =>
 wp_seq (wp_mono (h a w hs) fun e a' w' h=>by
  rcases h with ⟨y,h1,h2⟩|⟨rfl,h⟩
  ·cases e<;>first|exact h2 a' w' h1|exact .inl ⟨y,h1,h2⟩
  exact .inr ⟨rfl,h⟩)
theorem CD.region{id:Nat}{l:List Oper}(h:OD P C l.toArray l x Q):CD P C (.region id l.toArray false) x Q:=fun a w hs=>wp_region_lit (h a w hs)
theorem CD.cond{c:Operand}{d e:Code}{b:Bool}(hc:aF x c = .v (.bool b))(ht:b=true→CD P C d x Q)(hf:b=false→CD P C e x Q):CD P C (.cond c d e) x Q:=fun a w hs =>
 wp_cond_split (hs.flat hc) (fun h=>ht h a w hs) (fun h=>hf h a w hs)
theorem CD.ahg{c:Operand}{d e:Code}(hc:aF x c = .v (.bool b))(hb:b=true)(ht:CD P C d x Q):CD P C (.cond c d e) x Q:=fun a w hs =>
 wp_cond_true (by rw[hs.flat hc,hb]) (ht a w hs)
theorem CD.KZ{c:Operand}{d e:Code}(hc:aF x c = .v (.bool b))(hb:b=false)(hf:CD P C e x Q):CD P C (.cond c d e) x Q:=fun a w hs =>
 wp_cond_false (by rw[hs.flat hc,hb]) (hf a w hs)
def No(Inv:St→Prop)(Q:Exit→St→Prop):Exit→St→Prop
 | .normal,y=>∃z,Wk y z∧Inv z
 | e,y=>Q e y
theorem CD.cut{d:Code}(E:St→Prop)(h1:CD P C c x (No E Q))(h2:∀z,E z→CD P C d z Q):CD P C (.seq c d) x Q :=
 CD.seq (CD.mono h1 fun e y h=>by cases e<;>first|(obtain⟨z,hw,hz⟩:=h;exact CD.wk hw (h2 z hz))|exact h)
def BA(id:Nat)(Q:Exit→St→Prop):Exit→St→Prop
 | .exit s5,y=>bif Nat.beq s5 id then Q .normal y else Q (.exit s5) y
 | e,y=>Q e y
theorem CD.block{id:Nat}{c:Code}(h:CD P C c x (BA id Q)):CD P C (.block id c) x Q:=fun a w hs =>
 wp_block (wp_mono (h a w hs) fun e a' w' h=>by
  rcases h with ⟨y,h1,h2⟩|⟨rfl,h⟩
  case inr=>exact .inr ⟨rfl,h⟩
  cases e with
  | exit s5 =>
   simp only[BA] at h2;simp only[Exit.inBlock];by_cases he:s5=id
   ·subst he;rw[if_pos rfl];simp at h2;exact .inl ⟨y,h1,h2⟩
   rw[if_neg he];have:Nat.beq s5 id=false:=by
    cases h:Nat.beq s5 id with
    | false=>rfl
    | true=>exact absurd (Nat.eq_of_beq_eq_true h) he
   rw[this] at h2;exact .inl ⟨y,h1,h2⟩
  | _=>exact .inl ⟨y,h1,h2⟩)
theorem least(p:Nat→Prop)(h:∃n,p n):∃n,p n∧∀m,p m→n≤m:=by
 obtain⟨n,hn⟩:=h;induction n using Nat.strongRecOn with
 | _ n ih =>
  by_cases hq:∃m,m<n∧p m
  ·obtain⟨m,hm,hp⟩:=hq;exact ih m hm hp
  exact⟨n,hn,fun m hm=>Nat.le_of_not_lt fun aa=>hq ⟨m,aa,hm⟩⟩
def BX{ι:Type}(I:ι→St→Prop)(μ:ι→Nat)(i:ι)(Q:Exit→St→Prop):Exit→St→Prop
 | .normal,y=>∃j z,μ j < μ i∧Wk y z∧I j z
 | e,y=>Q e y
open Classical in
theorem CD.loop{ι:Type}{c:Code}(I:ι→St→Prop)(μ:ι→Nat)(i:ι)(h0:I i x)(round:∀i y,I i y→CD P C c y (BX I μ i Q)):CD P C (.loop c) x Q:=fun a w hs=>by
 let p:Act→World→Nat→Prop:=fun a w n=>∃i y,μ i=n∧I i y∧bH C y a w
 let m:Act→World→Nat:=fun a w=>if h:∃n,p a w n then Classical.choose (least _ h) else 0
 refine wp_loop (fun a w=>∃n,p a w n) m ⟨_,i,x,rfl,h0,hs⟩ fun a w O=>?_;have hm:m a w=Classical.choose (least _ O):=dif_pos O;obtain⟨⟨i,y,h1,h2,h3⟩,_⟩:=Classical.choose_spec (least _ O);rw[←hm] at h1;refine wp_mono (round i y h2 a w h3) fun e a' w' h=>?_;rcases h with ⟨z,q1,q2⟩|⟨rfl,h⟩
 case inr=>exact .inr ⟨rfl,h⟩
 cases e with
 | normal =>
  obtain⟨j,z',r1,r2,r3⟩:=q2;have hp:p a' w' (μ j):=⟨j,z',rfl,r3,r2 C a' w' q1⟩
  have E:∃n,p a' w' n:=⟨_,hp⟩
  have U:m a' w'=Classical.choose (least _ E):=dif_pos E;refine⟨E,?_⟩;have:=(Classical.choose_spec (least _ E)).2 _ hp;rw[U];omega
 | _=>exact .inl ⟨z,q1,q2⟩
def LF(tmps:Array Value):ResultVar→Sem Value
 | .tmp t=>pure (tmps.getD t undef)
 | .cell a t=>do loadVar t (←asAddr (tmps.getD a undef))
theorem Il(fn:Func)(tmps:Array Value):results fn tmps=(do let vs ←fn.results.mapM (LF tmps);pure (if h:vs.size=1 then vs[0] else .tuple vs)):=rfl
def s6(P:Program)(y:St)(rv:ResultVar)(d:D):Prop :=
 ∀C a w,bH C y a w→∃v,cq w (live C.X y.S) d v∧(LF a.tmps rv).run P w = .ok v w
theorem yW{d:D}(ht:t<y.n)(hd:look t y.env=d):s6 P y (.tmp t) d:=fun C a w h=>⟨_,hd ▸ h.env t ht,rfl⟩
theorem rY{c k b:Nat}{B:ah}(hc:c<y.n)(hd:look c y.env = .v (.pointer (some ⟨b,0,none⟩)))(hk:y.S[k]?=some B)(hb:B.b=b)(ha:∀w,(isAgg t).run P w = .ok true w)(hn:∀w,(sizeOf t).run P w = .ok n w)(dH:B.cs=ds)(hl:ds.length=n)(hne:isMap B.e=false:=by rfl):s6 P y (.cell c t) (.agg ds):=fun C a w h=>by
 subst hb dH;have he:=h.env c hc;rw[hd] at he;obtain⟨_,cur,h1,h2,h3,h4⟩:=h.fC hk;rw[kp hne] at h1;refine⟨.agg ((range n).map fun j=>cur.getD j undef).toArray,.agg _ _ (by simp[hl]) (fun i q1 q2=>?_),?_⟩
 ·obtain⟨u,hu,hr⟩:=h4 i q1;simp only[getElem_map,getElem_range,Array.getD_eq_getD_getElem?,hu,Option.getD_some];exact hr
 simp only[LF,he.kV,asAddr,Sem.run_bind,Sem.run_pure,Result.andThen_ok];have:=IB (P:=P) (t:=t) (w:=w) (b:=B.b) (o':=0) (vs:=(range n).map fun j=>cur.getD j undef) ha hn bf (fun j hj=>by
  simp only[length_map,length_range] at hj;obtain⟨u,hu,_⟩:=h4 j w4;simp only[getElem_map,getElem_range,Array.getD_eq_getD_getElem?,hu,Option.getD_some,Nat.zero_add];exact nZ h1 hu)
 simpa[Instr.loadAt,Instr.sureAddr] using this
def s7(P:Program)(fn:Func)(y:St)(r:D):Prop:=∀C a w,bH C y a w→∃v,cq w (live C.X y.S) r v∧(results fn a.tmps).run P w = .ok v w
theorem qn(hr:fn.results = #[]):s7 P fn y (.dI []):=fun C a w h =>
 ⟨.tuple #[],.dI [] [] rfl (fun i h1 _=>by simp at h1),by unfold results;simp[hr]⟩
theorem SV{rv:ResultVar}{d:D}(hr:fn.results = #[rv])(h:s6 P y rv d):s7 P fn y d:=fun C a w hs=>by
 obtain⟨v,h1,h2⟩:=h C a w hs;refine⟨v,h1,?_⟩;rw[Il,hr];simp[h2]
theorem SX{w:World}{vs:List Value}(h:cQ w L ds vs):cq w L (.dI ds) (.tuple vs.toArray):=.dI ds vs h.1 h.2
theorem cQ.cons{w:World}{d:D}{v:Value}{vs:List Value}(h:cq w L d v)(hs:cQ w L ds vs):cQ w L (d::ds) (v::vs) :=
 ⟨by simp[hs.1],fun i h1 h2=>by
  cases i with
  | zero=>exact h
  | succ i=>exact hs.2 i _ _⟩
theorem cQ.nil(w:World)(L:Nat→Prop):cQ w L [] []:=⟨rfl,fun i h=>by simp at h⟩
theorem JI{d1 d2:D}(hr:fn.results = #[r1,r2])(h1:s6 P y r1 d1)(h2:s6 P y r2 d2):s7 P fn y (.dI [d1,d2]):=fun C a w hs=>by
 obtain⟨v1,a1,b1⟩:=h1 C a w hs;obtain⟨v2,a2,b2⟩:=h2 C a w hs;refine⟨_,SX (.cons a1 (.cons a2 (.nil _ _))),?_⟩;rw[Il,hr];simp[b1,b2]
theorem aaV{r3:ResultVar}{d1 d2 d3:D}(hr:fn.results = #[r1,r2,r3])(h1:s6 P y r1 d1)(h2:s6 P y r2 d2)(h3:s6 P y r3 d3):s7 P fn y (.dI [d1,d2,d3]):=fun C a w hs=>by
 obtain⟨v1,a1,b1⟩:=h1 C a w hs;obtain⟨v2,a2,b2⟩:=h2 C a w hs;obtain⟨v3,a3,b3⟩:=h3 C a w hs;refine⟨_,SX (.cons a1 (.cons a2 (.cons a3 (.nil _ _)))),?_⟩;rw[Il,hr];simp[b1,b2,b3]
def Body(P:Program)(fn:Func)(post:D→List ah→Prop)(e:Exit)(y:St):Prop :=
 (e = .normal∨e = .ret)∧∃r S',S'.Sublist y.S∧s7 P fn y r∧post r S'
def so:Nat→List D→List (Nat×D)
 | _,[]=>[]
 | i,d::r=>(i,d)::so (i+1) r
theorem Et:∀(ds:List D) (i t:Nat),look t (so i ds)=if i≤t then ds.getD (t-i) .bU else .bU
 | [],i,t=>by simp[so,look]
 | d::r,i,t=>by
  rw[so,fU,Et r (i+1) t];by_cases h:i=t
  ·subst h;simp
  rw[if_neg h];by_cases h2:i≤t
  ·rw[if_pos h2,if_pos w4,show t-i=(t-(i+1))+1 from by omega];simp
  rw[if_neg h2,if_neg w4]
theorem VC.body {G:List (Nat×List Value)} {f:FuncId} {fn:Func} {c:Code} {n:Nat} {args:List D} {S:List ah} {post:D→List ah→Prop} (hf:P.funcs[f]?=some fn) (hb:fn.body=some c) (hn:fn.ntmps=n) (hl:args.length≤n)
  (h:∀X w0 S0,CD P ⟨X,w0,S0,G,[],fun _ _=>False⟩ c ⟨n,so 0 args,S⟩ (Body P fn post)):VC P G f args S post:=fun X w vs hp=>by
 have Z:vs.length=args.length:=hp.args.1;let C:dN:=⟨X,w,aq S,G,[],fun _ _=>False⟩
 have I:bH C ⟨n,so 0 args,S⟩ {tmps:=vs.toArray++Array.replicate (fn.ntmps-vs.toArray.size) undef,defers:=[]} w:=by
  refine⟨rfl,by simp[hn];omega,fun t ht=>?_,hp.own,Fr.refl _ _,hp.ex,hp.eP⟩;simp only[Et,Nat.zero_le,if_true,Nat.sub_zero];by_cases aa:t<args.length
  ·have e1:args.getD t .bU=args[t]:=(by simp[getD,aa])
   have e2:(vs.toArray++Array.replicate (fn.ntmps-vs.toArray.size) undef).getD t undef=vs[t]'w4:=by
    rw[Array.getD_eq_getD_getElem?,Array.getElem?_append_left iq];simp[show t<vs.length by omega]
   rw[e1,e2];exact hp.args.2 t aa w4
  have e1:args.getD t .bU = .bU:=(by simp[getD,getElem?_eq_none (show args.length≤t by omega)])
  rw[e1];exact .bU _
 refine calls_of_wp hf hb (wp_mono (h _ _ _ _ _ I) fun e a w' h=>?_);rcases h with ⟨y,h1,h2,r,S',h3,h4,h5⟩|⟨_,h⟩
 case inr=>exact h.elim
 obtain⟨v,q1,q2⟩:=h4 C a w' h1;have E:(aq S').Sublist (aq y.S):=Sublist.map _ h3;have key:a.defers=[]∧∃v,(results fn a.tmps).run P w' = .ok v w'∧∃U r S',Ending.returned v = .returned U∧post r S'∧Own w' (live X S') S'∧cq w' (live X S') r U∧Fr w (aq S) w' (aq S') :=
  ⟨h1.defers,v,q2,v,r,S',rfl,h5,h1.own.sub h3,q1.mono fun b _ hn=>⟨rfl,fun hl=>hn (hl.imp id fun q=>E.subset q)⟩,
   ⟨h1.fr.os,h1.fr.tape,h1.fr.output,h1.fr.size,fun b O hn=>⟨(h1.fr.block b O hn).1,fun q=>(h1.fr.block b O hn).2 (E.subset q)⟩⟩⟩
 rcases h2 with rfl|rfl<;>exact key

end Go.Proofs.YtdgichenhdikgaaGreatDoor.V
namespace Go.Proofs.YtdgichenhdikgaaGreatDoor.V
open List
open Go.RowKit
variable {fuel i t:Nat} {ld:Array Bool}
def kW(w1:World)(S1 T:List Nat)(w:World):Prop:=(∀b,b<w1.heap.size→b∉S1→w.heap[b]?=w1.heap[b]?)∧∀b∈T,w.heap[b]?=w1.heap[b]?
def AD(P:Program)(C:dN)(ops:Array Oper)(S1 T:List Nat)(fuel:Nat)(ld:Array Bool)(x:St)(Q:Exit→St→Prop):Prop :=
 ∀w1 a w,bH C x a w→(∀b∈T,b∈S1)→(∀b∈S1,b<w1.heap.size)→Fr w1 S1 w (aq x.S)→kW w1 S1 T w→wpAnyH P .any ops (LQ C Q) (kW w1 S1 T) fuel ld a w
def dD(P:Program)(C:dN)(ops:Array Oper)(S1 T:List Nat)(fuel:Nat)(ld:Array Bool)(x:St)(Q:Exit→St→Prop):Prop :=
 ∀a w,bH C x a w→aq x.S=S1→(∀b∈T,b∈S1)→wpAnyH P .any ops (LQ C Q) (kW w S1 T) fuel ld a w
def NP(Q:Exit→St→Prop):Prop:=∀c y t,Q (.panic c) y→Q (.panic c) (y.put t .bU)
variable {P:Program} {C:dN} {Q:Exit→St→Prop} {x y:St} {ops:Array Oper} {l:List Oper} {o:Oper} {S1 T:List Nat}
theorem NP.body{fn:Func}{post:D→List ah→Prop}:NP (Body P fn post):=fun E y t hq=>by rcases hq.1 with h|h<;>cases h
def Tl(P:Program)(C:dN)(ops:Array Oper)(l:List Oper)(Q:Exit→St→Prop):Exit→St→Prop
 | .normal,y=>OD P C ops l y Q
 | e,y=>Q e y
theorem kW.refl(w1:World)(S1 T:List Nat):kW w1 S1 T w1:=⟨fun _ _ _=>rfl,fun _ _=>rfl⟩
theorem dD.later(hS:aq x.S=S1)(h:AD P C ops S1 T fuel ld x Q):dD P C ops S1 T fuel ld x Q:=fun a w hs _ hT =>
 h w a w hs hT (fun b hb=>by
  rw[←hS] at hb;obtain⟨B,hB,rfl⟩:=mem_map.1 hb;exact(hs.own.at_ B hB).1) (hS ▸ Fr.refl _ _) (kW.refl _ _ _)
def Safe(x:St)(T:List Nat):Rd→Prop
 | .none=>True
 | .jY=>True
 | .fC k=>∃B,x.S[k]?=some B∧B.b∈T
theorem zl(h:NP Q)(d:Option Nat)(v:Value):∀c a w,LQ C Q (.panic c) (a.put d v) w→LQ C Q (.panic c) a w:=fun c a w hq=>by
 rcases hq with ⟨y,h1,h2⟩|⟨h2,_⟩
 ·cases d with
  | none=>exact .inl ⟨y,h1,h2⟩
  | some t =>
   refine .inl ⟨y.put t .bU,⟨h1.defers,by have E:=h1.size;simp only[Act.put,Array.size_setIfInBounds] at E;exact E,fun q hq=>?_,h1.own,h1.fr,h1.ex,h1.eP⟩,h c y t h2⟩;have h3:=h1.env q hq;simp only[St.put,fU];by_cases e:t=q
   ·rw[if_pos e];exact .bU _
   rw[if_neg e];have:(a.put (some t) v).tmps.getD q undef=a.tmps.getD q undef:=(by simp[Act.put,Array.getD_eq_getD_getElem?,Array.getElem?_setIfInBounds,e])
   rw[this] at h3;exact h3
 cases h2
theorem dD.take {k:Rd} {d:D} (hi:ops[i]?=some o) (hs:Region.noSelect ops=true) (hf:Region.free .any ops ld i=true) (hr:(Region.ready .any ops ld).contains i=true) (hp:NP Q)
  (hw:cc ops x o true) (hd:o.dst=some t) (h:bS P C.G x o k d) (hk:Safe x T k) (K:dD P C ops S1 T fuel (ld.setIfInBounds i true) (x.put t d) Q):dD P C ops S1 T (fuel+1) ld x Q:=fun a w E hS hT=>by
 obtain⟨v,h1,h2⟩:=h C a w rfl E;refine wpAnyH_take hi hs hf hr (zl hp _ v) (.inl ⟨hw C a w E,fun w' I=>h2 w' ?_⟩) (kW.refl _ _ _) ?_
 ·cases k with
  | none=>trivial
  | jY=>exact fun b hb hn=>I.1 b hb (fun hm=>hn (.inr (hS ▸ hm)))
  | fC k =>
   obtain⟨B,hB,hm⟩:=hk;intro B' O;rw[hB] at O;obtain rfl:=Option.some.inj O;exact I.2 _ hm
 rw[hd];exact K _ _ (E.put h1) hS hT
theorem dD.I7 (hi:ops[i]?=some o) (hs:Region.noSelect ops=true) (hf:Region.free .any ops ld i=true) (hr:(Region.ready .any ops ld).contains i=true) (hp:NP Q)
  (hw:cc ops x o false) (hd:o.dst=some t) (K:dD P C ops S1 T fuel (ld.setIfInBounds i true) (x.put t (.v (.tuple #[]))) Q):dD P C ops S1 T (fuel+1) ld x Q:=fun a w E hS hT=>by
 refine wpAnyH_take (v:=undef) hi hs hf hr (zl hp _ _) (.inr ⟨hw C a w E,rfl⟩) (kW.refl _ _ _) ?_;rw[hd];exact K _ _ (E.put (.v _)) hS hT
theorem AD.take {k:Rd} {d:D} (hi:ops[i]?=some o) (hs:Region.noSelect ops=true) (hf:Region.free .any ops ld i=true) (hr:(Region.ready .any ops ld).contains i=true) (hp:NP Q)
  (hw:cc ops x o true) (hd:o.dst=some t) (h:bS P C.G x o k d) (hk:Safe x T k) (qa:k≠.jY) (K:AD P C ops S1 T fuel (ld.setIfInBounds i true) (x.put t d) Q):AD P C ops S1 T (fuel+1) ld x Q:=fun w1 a w E hT aa O fG=>by
 obtain⟨v,h1,h2⟩:=h C a w rfl E;refine wpAnyH_take hi hs hf hr (zl hp _ v) (.inl ⟨hw C a w E,fun w' U=>h2 w' ?_⟩) fG ?_
 ·cases k with
  | none=>trivial
  | jY=>exact absurd rfl qa
  | fC k =>
   obtain⟨B,hB,hm⟩:=hk;intro B' I;rw[hB] at I;obtain rfl:=Option.some.inj I;exact(U.2 _ hm).trans (fG.2 _ hm).symm
 rw[hd];exact K _ _ _ (E.put h1) hT aa O fG
theorem AD.I7 (hi:ops[i]?=some o) (hs:Region.noSelect ops=true) (hf:Region.free .any ops ld i=true) (hr:(Region.ready .any ops ld).contains i=true) (hp:NP Q)
  (hw:cc ops x o false) (hd:o.dst=some t) (K:AD P C ops S1 T fuel (ld.setIfInBounds i true) (x.put t (.v (.tuple #[]))) Q):AD P C ops S1 T (fuel+1) ld x Q:=fun w1 a w E hT aa I fG=>by
 refine wpAnyH_take (v:=undef) hi hs hf hr (zl hp _ _) (.inr ⟨hw C a w E,rfl⟩) fG ?_;rw[hd];exact K _ _ _ (E.put (.v _)) hT aa I fG
def bj(P:Program)(C:dN)(ops:Array Oper)(S1 T:List Nat)(fuel:Nat)(ld:Array Bool)(x:St)(Q:Exit→St→Prop)(i:Nat):Prop :=
 ∀w1 a w,bH C x a w→(∀b∈T,b∈S1)→(∀b∈S1,b<w1.heap.size)→Fr w1 S1 w (aq x.S)→kW w1 S1 T w →
  wpOp P ops (LQ C Q) i (fun a' w'=>kW w1 S1 T w'∧wpAnyH P .any ops (LQ C Q) (kW w1 S1 T) fuel (ld.setIfInBounds i true) a' w') a w
theorem AD.all{I:List Nat}(hr:Region.ready .any ops ld=I)(hne:I≠[])(h:∀i∈I,bj P C ops S1 T fuel ld x Q i):AD P C ops S1 T (fuel+1) ld x Q:=fun w1 a w E hT aa O fG =>
 wpAnyH_all hr hne fun i hi=>h i hi w1 a w E hT aa O fG
theorem AD.one(hr:Region.ready .any ops ld=[i])(h:bj P C ops S1 T fuel ld x Q i):AD P C ops S1 T (fuel+1) ld x Q :=
 AD.all hr bf fun j hj=>by
  have:j=i:=(by simpa using hj)
  subst this;exact h
theorem AD.two{j:Nat}(hr:Region.ready .any ops ld=[i,j])(h:bj P C ops S1 T fuel ld x Q i)(h':bj P C ops S1 T fuel ld x Q j):AD P C ops S1 T (fuel+1) ld x Q :=
 AD.all hr bf fun k hk=>by
  simp only[mem_cons,not_mem_nil,or_false] at hk;rcases hk with rfl|rfl
  ·exact h
  exact h'
theorem AD.three{j k:Nat}(hr:Region.ready .any ops ld=[i,j,k])(h:bj P C ops S1 T fuel ld x Q i)(h':bj P C ops S1 T fuel ld x Q j)(E:bj P C ops S1 T fuel ld x Q k):AD P C ops S1 T (fuel+1) ld x Q :=
 AD.all hr bf fun m hm=>by
  simp only[mem_cons,not_mem_nil,or_false] at hm;rcases hm with rfl|rfl|rfl
  ·exact h
  ·exact h'
  exact E
theorem AD.done(hr:Region.ready .any ops ld=[])(h:Q .normal x):AD P C ops S1 T fuel ld x Q:=fun w1 a w E hT aa I fG=>wpAnyH_done hr (.inl ⟨x,E,h⟩) _
theorem bj.fW {W:List Nat} {post:St→Prop} (hi:ops[i]?=some o) (hw:cc ops x o true) (h:fP P C.G x o W post) (hW:∀C a w,bH C x a w→∀b∈T,b∉W) (hWx:∀b∈W,b∈aq x.S)
  (k:∀y,post y→AD P C ops S1 T fuel (ld.setIfInBounds i true) y Q):bj P C ops S1 T fuel ld x Q i:=fun w1 a w I hT aa E fG=>by
 unfold wpOp;simp only[hi,hw C a w I,if_true];refine .inl (h C a w _ _ rfl I fun y a' w' hp Z hc hf=>?_);have O:Fr w1 S1 w' (aq y.S):=⟨hf.os.trans E.os,hf.tape.trans E.tape,hf.output.trans E.output,Nat.le_trans E.size hf.size,fun b hb hn=>by
  obtain⟨q1,q2⟩:=E.block b hb hn;obtain⟨q3,q4⟩:=hf.block b (Nat.lt_of_lt_of_le hb E.size) q2;exact⟨q3.trans q1,q4⟩⟩
 have U:kW w1 S1 T w':=⟨fun b hb hn=>(O.block b hb hn).1,fun b hb=>by
  have jh:=Nat.lt_of_lt_of_le (aa b (hT b hb)) E.size;exact(hc.2 b jh (hW C a w I b hb)).trans (fG.2 b hb)⟩
 exact⟨U,k y hp w1 a' w' Z hT aa O U⟩
theorem bj.still{kd:Rd}{d:D}(hi:ops[i]?=some o)(hw:cc ops x o true)(hd:o.dst=some t)(h:bS P C.G x o kd d)(k:AD P C ops S1 T fuel (ld.setIfInBounds i true) (x.put t d) Q):bj P C ops S1 T fuel ld x Q i :=
 bj.fW hi hw (h.fW hd) (fun _ _ _ _ b _ hb=>by simp at hb) (fun b hb=>by simp at hb) fun y hy=>by subst hy;exact k
theorem bj.skip(hi:ops[i]?=some o)(hw:cc ops x o false)(hd:o.dst=some t)(k:AD P C ops S1 T fuel (ld.setIfInBounds i true) (x.put t (.v (.tuple #[]))) Q):bj P C ops S1 T fuel ld x Q i:=fun w1 a w E hT aa I fG=>by
 unfold wpOp;simp only[hi,hw C a w E,hd];exact⟨fG,k w1 _ w (E.put (.v _)) hT aa I fG⟩
theorem AD.wk(h:Wk x y)(hb:aq y.S=aq x.S)(k:AD P C ops S1 T fuel ld y Q):AD P C ops S1 T fuel ld x Q:=fun w1 a w E hT aa I fG=>k w1 a w (h C a w E) hT aa (hb ▸ I) fG
theorem AD.F0(h:Wk x y)(hb:∀b∈aq y.S,b∈aq x.S)(k:AD P C ops S1 T fuel ld y Q):AD P C ops S1 T fuel ld x Q:=fun w1 a w I hT aa E fG =>
 k w1 a w (h C a w I) hT aa ⟨E.os,E.tape,E.output,E.size,fun b h1 h2=>⟨(E.block b h1 h2).1,fun h3=>(E.block b h1 h2).2 (hb b h3)⟩⟩ fG
theorem CD.draw{id:Nat}{l:List Oper}(T:List Nat)(hm:P.follows .mixedOrders=true)(hT:∀b∈T,b∈aq x.S)(h:dD P C l.toArray (aq x.S) T l.toArray.size (Array.replicate l.toArray.size false) x Q):CD P C (.region id l.toArray true) x Q:=fun a w hs =>
 wp_region_held (S:=kW {w with drawn:=w.drawn+1} (aq x.S) T) hm (h a _ ⟨hs.defers,hs.size,fun t ht=>(hs.env t ht).mono fun b _ hn=>⟨rfl,hn⟩,⟨fun B E=>by
  obtain⟨r0,cur,r1,r2,r3,r4⟩:=hs.own.at_ B E;exact⟨r0,cur,r1,r2,r3,fun i hi=>by
   obtain⟨u,hu,hq⟩:=r4 i hi;exact⟨u,hu,hq.mono fun b _ hn=>⟨rfl,hn⟩⟩⟩,hs.own.apart⟩,⟨hs.fr.os,hs.fr.tape,hs.fr.output,hs.fr.size,hs.fr.block⟩,hs.ex,hs.eP⟩ rfl hT)

end Go.Proofs.YtdgichenhdikgaaGreatDoor.V

namespace Go.Proofs.YtdgichenhdikgaaGreatDoor.V
open List
open Go.RowKit
variable {P:Program}

variable {t:TypeId} {k:IntKind} {a b:Int} {us AG:List Value} {y:Operand}
theorem JJ{op:BinOp}{r:Int}(h:(op = .add∧k.wrap (a+b)=r)∨(op = .sub∧k.wrap (a-b)=r)∨(op = .mul∧k.wrap (a*b)=r)):kO P op t (.int k a) (.int k b) (.int k r):=fun y z w=>by
 rcases h with ⟨rfl,h⟩|⟨rfl,h⟩|⟨rfl,h⟩<;>simp[eqGuard,binOp,Op.intArith,h]

theorem kr{r:Int}(h:k.wrap (a+b)=r):kO P .add t (.int k a) (.int k b) (.int k r):=JJ (.inl ⟨rfl,h⟩)
theorem gj{r:Int}(h:k.wrap (a-b)=r):kO P .sub t (.int k a) (.int k b) (.int k r):=JJ (.inr (.inl ⟨rfl,h⟩))
theorem JK{r:Int}(h:k.wrap (a*b)=r):kO P .mul t (.int k a) (.int k b) (.int k r):=JJ (.inr (.inr ⟨rfl,h⟩))
theorem SY:kO P .lss t (.int k a) (.int k b) (.bool (decide (a<b))):=fun y z w=>by simp[eqGuard,binOp,Op.intCmp]
theorem SZ:kO P .leq t (.int k a) (.int k b) (.bool (decide (a≤b))):=fun y z w=>by simp[eqGuard,binOp,Op.intCmp]
theorem S4:kO P .gtr t (.int k a) (.int k b) (.bool (decide (a>b))):=fun y z w=>by simp[eqGuard,binOp,Op.intCmp]
theorem S5:kO P .geq t (.int k a) (.int k b) (.bool (decide (a≥b))):=fun y z w=>by simp[eqGuard,binOp,Op.intCmp]
theorem S6:kO P .eql t (.int k a) (.int k b) (.bool (a==b)):=fun y z w=>by simp[eqGuard,binOp,Op.intCmp]
theorem S8:kO P .neq t (.int k a) (.int k b) (.bool (a != b)):=fun y z w=>by simp[eqGuard,binOp,Op.intCmp]
theorem ael{r:Int}(hb:b≠0)(h:k.wrap (a.tdiv b)=r):kO P .quo t (.int k a) (.int k b) (.int k r):=fun y z w=>by simp[eqGuard,binOp,Op.intDiv,hb,h]
theorem JL(hb:b≠0):kO P .rem t (.int k a) (.int k b) (.int k (a.tmod b)):=fun y z w=>by simp[eqGuard,binOp,Op.intDiv,hb]

theorem Q4{a b:ByteArray}:kO P .eql t (.string a) (.string b) (.bool (a.toList==b.toList)):=fun y z w=>by simp[eqGuard,binOp,Op.stringOp]
theorem Q5{a b:ByteArray}:kO P .neq t (.string a) (.string b) (.bool (!(a.toList==b.toList))):=fun y z w=>by simp[eqGuard,binOp,Op.stringOp]
theorem JM{a b:ByteArray}(h:a.size+b.size≤9223372036854775807):kO P .add t (.string a) (.string b) (.string (a++b)):=fun y z w=>by
 have:¬(((a.size+b.size:Nat):Int)>IntKind.i64.max):=by
  have:IntKind.i64.max=9223372036854775807:=rfl;omega
 simp only[eqGuard,binOp,Op.stringOp,Sem.run_bind];simp only[this,if_false];simp

theorem ES{a b:Bool}(E:P.underlying t=some .bool):kO P .eql t (.bool a) (.bool b) (.bool (a==b)):=fun y z w=>by
 have:binOp .eql t (.bool a) (.bool b)=(do pure (.bool (←Op.equal t (.bool a) (.bool b)))):=rfl;simp only[eqGuard,this,Sem.run_bind];simp[run_equal_bool w t a b E]
theorem Q6{a b:Bool}(E:P.underlying t=some .bool):kO P .neq t (.bool a) (.bool b) (.bool (!(a==b))):=fun y z w=>by
 have:binOp .neq t (.bool a) (.bool b)=(do pure (.bool (!(←Op.equal t (.bool a) (.bool b))))):=rfl;simp only[eqGuard,this,Sem.run_bind];simp[run_equal_bool w t a b E]

theorem cq.F1{w:World}{L:Nat→Prop}{v:Value}(h:cq w L (.agg (us.map .v)) v):v = .agg us.toArray:=by
 cases h with
 | agg _ vs hl hr =>
  congr 1;congr 1;refine ext_getElem xo fun i h1 h2=>?_;have:=hr i (by simpa using h2) h1;simp only[getElem_map] at this;exact this.kV

section
variable {G:List (Nat×List Value)} {x:St} {o:Oper}

theorem aaW {t':TypeId} {z:Operand} {r:Bool} (ho:o.op = .binOp .eql t y z t') (hy:aF x y = .agg (us.map .v)) (hz:aF x z = .agg (AG.map .v)) (hg:P.eqGuardType P.depth t=false)
  (hE:∀w,(Op.equalIn 10000 t (.agg us.toArray) (.agg AG.toArray)).run P w = .ok r w):bS P G x o .none (.v (.bool r)):=fun C a w _ h=>by
 have h1:=h.eval y;have h2:=h.eval z;rw[hy] at h1;rw[hz] at h2;refine⟨_,.v _,fun w' _=>?_⟩;unfold execOp;simp only[ho,h1.F1,h2.F1,Sem.run_bind,run_eqGuard_agg _ _ _ _ _ _ _ hg,Result.andThen_ok,run_eql_struct,hE,Sem.run_pure]

theorem PP {t':TypeId} {z:Operand} {r:Bool} (ho:o.op = .binOp .neq t y z t') (hy:aF x y = .agg (us.map .v)) (hz:aF x z = .agg (AG.map .v)) (hg:P.eqGuardType P.depth t=false)
  (hE:∀w,(Op.equalIn 10000 t (.agg us.toArray) (.agg AG.toArray)).run P w = .ok r w):bS P G x o .none (.v (.bool !r)):=fun C a w _ h=>by
 have h1:=h.eval y;have h2:=h.eval z;rw[hy] at h1;rw[hz] at h2;refine⟨_,.v _,fun w' _=>?_⟩;unfold execOp;simp only[ho,h1.F1,h2.F1,Sem.run_bind,run_eqGuard_agg _ _ _ _ _ _ _ hg,Result.andThen_ok,run_neq_struct,hE,Sem.run_pure]

def u9(b:UInt8):D:=.v (.int .u8 (b.toNat:Int))

theorem Zl{s e:TypeId}{bs:List UInt8}{n:Nat}(ho:o.op = .convert s t y)(hy:aF x y = .list 1 (bs.map u9) n)(hs:P.underlying s=some (.slice e))(he:P.underlying e=some (.int .u8))(ht:P.underlying t=some .string) :
  bS P G x o .jY (.v (.string ⟨bs.toArray⟩)):=fun C a w _ h=>by
 have hr:=h.eval y;rw[hy] at hr;generalize hg:a.eval y=u at hr;generalize dH:bs.map u9=cs at hr;cases hr with
 | mq _ ad cap =>
  have:bs=[]:=(by simpa using dH)
  subst this;refine⟨_,.v _,fun w' _=>?_⟩;unfold execOp;simp only[ho,hg,Sem.run_bind,run_convert_bytes_string w' s t e ad 0 cap hs he ht];cases ad<;>simp[Conv.bytesToString,loadCells,loadCellsFrom]<;>rfl
 | list _ _ _ b I cap g hl q1 q2 hb hL hc O =>
  subst dH;simp only[length_map,Nat.mul_one] at hl hc;refine⟨_,.v _,fun w' hw=>?_⟩;unfold execOp;have E:=run_convert_bytes_back (P:=P) w' s t e ⟨b,I,none⟩ cap bs hs he ht (fun j hj=>by
   rw[Addr.add_mid];have U:=World.cell?_of_block (w:=w) (a:=⟨b,I+j,none⟩) (hw b hb hL);rw[U,hc j hj];have:=O j (by simpa using hj);simp only[getElem_map,u9] at this;rw[this.kV])
  rw[hl] at E;simp only[ho,hg,Sem.run_bind,E,Result.andThen_ok,Sem.run_pure]
end

theorem afS{b:Bool}:∀w,(Op.unary .not (.bool b)).run P w = .ok (.bool !b) w:=fun w=>rfl
theorem Ks{r:Int}(h:k.wrap (0-a)=r):∀w,(Op.unary .neg (.int k a)).run P w = .ok (.int k r) w:=fun w=>by
 subst h;rfl

theorem oL{s:TypeId}{k':IntKind}{r:Int}{d:TypeDesc}(hs:∀w,(underlying s).run P w = .ok d w)(ht:∀w,(underlying t).run P w = .ok (.int k') w)(h:k'.wrap a=r):∀w,(convert s t (.int k a)).run P w = .ok (.int k' r) w:=fun w=>by
 subst h;simp[convert,hs,ht,Conv.intToInt]

theorem wrap_i64{x:Int}(h1:-9223372036854775808≤x)(h2:x≤9223372036854775807):IntKind.i64.wrap x=x:=IntWalk.i64_in _ w4

theorem afT{ts:Array TypeId}{E:TypeId}:∀cs w,(builtin .min ts E cs #[.int k a,.int k b]).run P w = .ok (.value (.int k (if b<a then b else a))) w:=fun cs w=>by
 simp[builtin,Builtin.min_,Builtin.min2]
theorem nv:(∀{p:Prop} [Decidable p],(decide p=true)=p)∧(∀{p:Prop} [Decidable p],(decide p=false)↔¬p)∧(∀{a b:Int},(a==b)=true↔a=b)∧(∀{a b:Int},(a != b)=true↔a≠b)∧(∀{a b:Bool},(a==b)=true↔a=b)∧(∀{a b:Bool},(a != b)=true↔a≠b)
  ∧ (∀{b:Bool},((!b)=true)=(b=false))∧(∀{b:Bool},((!b)=false)=(b=true))∧(∀{b:Bool},(¬b=true)=(b=false))∧(∀{b:Bool},(¬b=false)=(b=true))∧(∀{a b:Int},(a==b)=false↔¬a=b)∧(∀{a b:Int},(a != b)=false↔a=b)∧(∀{a b:Bool},(a==b)=false↔¬a=b)∧(∀{a b:Bool},(a != b)=false↔a=b)
  ∧ (∀{a b:Bool},((a&&b)=true)=(a=true∧b=true))∧(∀{a b:Bool},((a||b)=true)=(a=true∨b=true))∧(∀{b:Bool},(!!b)=b)∧(∀{a b:Bool},(a&&b)=false↔a=false∨b=false)∧(∀{a b:Bool},(a||b)=false↔a=false∧b=false)∧(∀{a b:Int},(¬a<b)↔b≤a)∧(∀{a b:Int},(¬a≤b)↔b<a):=by
 refine⟨fun {p} _=>by simp,fun {p} _=>by simp,by simp,by simp,by simp,by simp,by simp,by simp,by simp,by simp,by simp,by simp,by simp,by simp,by simp,by simp,by simp,by simp,by simp,by simp,by simp⟩
end Go.Proofs.YtdgichenhdikgaaGreatDoor.V
