/-
  GC: walks and plain facts, part 1.
-/
import Derived.WalkKit
import Derived.Deep.MidRow
import Derived.Deep.AppendLies
import Derived.OrdersHeld
import Derived.IntWalk
import Derived.Laws.Cover3
import Derived.ChangeKeysEq
import Derived.ProofKit
import Derived.OpenShut
import Derived.Lib.LaidTab
import Derived.Below
import Derived.Deep.Slices
import Derived.ArgAppend
import Derived.Lib.AppendStr
import Derived.MapKept
import Derived.RangeFuncLeaves
import Derived.RangeFuncOwn
import Derived.OrdersIn
import Derived.TacticsIn
import Derived.Shelf.Abstract
import Derived.RecoverIn
import Derived.WalkLawsBesides
import Derived.Lib.AppendZeros
import Derived.Laws.IdiomCopy
import Derived.Lib.Overlaps
import Derived.Lib.AppendZerosOnto
import Derived.Lib.BytesEntry
import Derived.Shelf.Strings.Builder1
import Derived.Shelf.Strings.Builder2
import Derived.Shelf.Small.Strs
import Derived.Shelf.Small.Wraps
import Derived.Shelf.Strings.BuilderF
import Derived.Shelf.Strings.BuilderK
import Derived.Shelf.Utf8.RuneCount
import Derived.Shelf.Strings.Builder2Cap
import Derived.Shelf.Strings.Search1
import Derived.Shelf.Strings.Search2
import Derived.Shelf.Strings.Search3
import Derived.Shelf.Strings.Count
import Derived.Shelf.LaysM
import Derived.Shelf.Strings.Shaped
import Derived.Shelf.Strings.Split
import Derived.Shelf.Strings.Replace
import Derived.Shelf.Strings.SplitShaped
import Derived.Shelf.Unicode.Decode
import Derived.Shelf.Strings.RuneCount
import Derived.Shelf.Unicode.DecodeSlow
import Derived.Shelf.Unicode.DecodeAny
import Derived.Shelf.Strings.BuilderCap
import Derived.Shelf.Slices.Turned
import Derived.Shelf.Slices.Reverse
import Derived.Ground.Names2Prog
import Derived.Shelf.Slices.Clone
import Derived.Shelf.Slices.SearchI
import Derived.Shelf.Slices.Delete
import Derived.Shelf.Slices.Cells
import Derived.Shelf.Slices.Empties
import Derived.Shelf.Bytes.SlSearch0
import Derived.Shelf.Bytes.SlEqualAll
import Derived.Shelf.Bytes.Small
import Derived.SizedLaws
import Derived.Lib.Bytealg
import Derived.Test.YtbplamgacibdaaaGreatDoorRows
import Derived.Test.YtbplamgacibdaaaGreatDoorProg
set_option linter.unusedVariables false
set_option linter.unusedSimpArgs false
set_option maxRecDepth 100000
set_option maxHeartbeats 4000000
namespace Go.Proofs.YtbplamgacibdaaaGreatDoor
open List
variable {p:Prop}
theorem w4(h:p:=by omega):p:=h
theorem w5(h:p:=by first|assumption|omega):p:=h
theorem w6(h:p:=by (repeat (first|exact fK|(apply gb;focus (first|rfl|(simp;done)|(congr 2;omega)|(apply eP;rw[<-Qw aa];unfold vE;first|(rw[VQ (by assumption)];simp;done)|(rw[VR (by assumption),take_of_length_le (l:=ni (uN l[i])) (by rw[FV];omega)];simp;done)|(rw[VS (by assumption),<-Bu];simp;done)|(rw[VT (by assumption) (by assumption) (by assumption)];done))|(apply eP;rfl)|(apply eP;simp;done)))|(apply fO;focus rfl)));done):p:=h
theorem w7(h:p:=by (repeat (first|exact fK|(apply gb;focus (first|rfl|(rw[qe];done)|(simp;done)))|(apply fO;focus rfl)));done):p:=h
theorem w8(h:p:=by decide):p:=h
theorem w9(h:p:=by simp only[length_append,length_map,length_cons,length_nil];omega):p:=h
theorem me(h:p:=by simp only[maxLen,length_cons,length_nil] at *;omega):p:=h
theorem vS(h:p:=by have cR:=dI;have q1:=Fy Nh i;(try have q2:=Nh _ (getElem_mem aa));(try simp only[length_append,length_cons,length_nil]);omega):p:=h
theorem qf(h:p:=by simp only[maxLen,length_append,length_map,length_cons,length_nil];omega):p:=h
theorem yd(h:p:=by exact(nV (mk:=Op.indexAddr 29) rfl ot bV (by first|exact oF runUnderlying29 sizeOf68 (j:=0) rfl ow|exact oI runUnderlying29 sizeOf68 (j:=0) rfl ow))):p:=h
theorem mg(h:p:=by simp only[length_cons,length_nil] at *;omega):p:=h
theorem G6(h:p:=by rw[<-Qw aa];unfold vE;first|(rw[VQ (by assumption)];simp;done)|(rw[VR (by assumption),take_of_length_le (l:=ni (uN l[i])) (by rw[FV];omega)];simp;done)|(rw[VS (by assumption),<-Bu];simp;done)|(rw[VT (by assumption) (by assumption) (by assumption)];done)):p:=h
theorem Ni(h:p:=by first|exact(dz (mk:=Op.load 101) rfl ot (by exact jj (k:=0) (i:=(eR H l[i])) gr rfl rfl rfl isAgg101 gZ rfl))|exact(dz (mk:=Op.load 101) rfl ot (by exact jj (k:=1) (i:=(eR H l[i])) gr rfl rfl rfl isAgg101 gZ rfl))|exact(dz (mk:=Op.load 101) rfl ot (by exact jj (k:=2) (i:=(eR H l[i])) gr rfl rfl rfl isAgg101 gZ rfl))):p:=h
theorem G7(h:p:=by exact(dL 1 (h:=by first|exact .l (j:=((ax t s.aj).1[k]'aa).toNat) (Int.toNat_of_nonneg iu).symm (by rw[<-vT];exact gi)|exact .r (j:=((ax t s.aj).1[k]'aa).toNat) (Int.toNat_of_nonneg iu).symm (by rw[<-vT];exact gi)))):p:=h
theorem vU(h:p:=by show _=p.kids.drop (if p.leaf=true then 2 else 3);rw[fT];rfl):p:=h
theorem vV(h:p:=by show _=p.keys.drop (if p.leaf=true then 2 else 3);rw[fT];rfl):p:=h
theorem bq(h:p:=by simp):p:=h
theorem jJ(h:p:=by first|rfl|assumption):p:=h
theorem Ay(h:p:=by have cR:=dI;(try simp only[length_append,length_cons,length_nil,length_take,FV]);omega):p:=h
theorem G8(h:p:=by (repeat (first|exact fK|(apply gb;focus (first|rfl|(simp;done)|(congr 2;omega)|(apply eP;rfl)|(apply eP;simp;done)))|(apply fO;focus rfl)));done):p:=h
theorem Az(h:p:=by simp only[flatten_cons,flatten_nil,length_append,length_cons,length_nil];omega):p:=h
theorem jZ(h:p:=by first|rfl|simp):p:=h
theorem AA(h:p:=by have cR:=dI;(try simp only[length_append,length_cons,length_nil]);omega):p:=h
theorem nj(h:p:=by first|rfl|simp[St.put]):p:=h
theorem Nj(h:p:=by exact(dL 1 (h:=by first|exact .l (j:=((ax t s.aj).1[k]'aa).toNat) (Int.toNat_of_nonneg iu).symm eT|exact .r (j:=((ax t s.aj).1[k]'aa).toNat) (Int.toNat_of_nonneg iu).symm eT))):p:=h
theorem iF(h:p:=by simp;omega):p:=h
theorem Nk(h:p:=by exact(nV (mk:=Op.indexAddr 29) rfl ot bV (by first|exact oF runUnderlying29 sizeOf68 (j:=0) rfl hU|exact oI runUnderlying29 sizeOf68 (j:=0) rfl hU))):p:=h
theorem vW(h:p:=by rw[length_append,length_singleton];omega):p:=h
theorem pC(h:p:=by rw[length_take];omega):p:=h
theorem Nl(h:p:=by exact⟨⟨_,ot,(KY eW sN (fun B hB=>by repeat (first|exact hB|apply mem_append_right|apply mem_cons_of_mem)))⟩,⟨_,ot,ff⟩,trivial⟩):p:=h
theorem s7(h:p:=by rw[p8,jC,append_assoc];rfl):p:=h
theorem Nn(h:p:=by exact(P4 (pl:=[(0,_),(1,_)]) (ds:=[_,_,_,_,_,_]) rfl zeroValue245 runUnderlying245 sizeOf56 ⟨rfl,ot,rfl,ot,trivial⟩ rfl rfl)):p:=h
theorem No(h:p:=by have:=Jq s.names s.names.length;(try rw[uD]);simp only[length_append,length_map,length_cons,length_nil];omega):p:=h
theorem G9(h:p:=by rw[take_succ_eq_append_getElem aa,take_succ_eq_append_getElem og,AB,He]):p:=h
theorem pD(h:p:=by rw[append_nil]):p:=h
theorem Hf(h:p:=by simp only[maxLen,length_append,length_cons,length_nil] at *;omega):p:=h
theorem s8(h:p:=by rw[y2,p8,jC];simp):p:=h
theorem Dg(h:p:=by first|rfl|(show(1:Int)+_=1+_;omega)|omega):p:=h
theorem uE(h:p:=by rw[length_set];omega):p:=h
theorem vX(h:p:=by rw[length_set];exact hj):p:=h
theorem uF(h:p:=by first|exact vf rfl gr (fun h=>by cases h) runUnderlying127 sizeOf86 w4|exact mW (fun _=>rfl) runUnderlying127 sizeOf86 w4|exact ue (fun h=>by cases h) (fun _=>rfl) runUnderlying127 sizeOf86 w4 w4|exact mz (fun h=>by cases h) (fun _=>rfl) runUnderlying127 sizeOf86 w4 w4):p:=h
theorem uG(h:p:=by first|exact vf rfl eC (fun h=>by cases h) runUnderlying61 sizeOf3 w4|exact mW (fun _=>rfl) runUnderlying61 sizeOf3 w4|exact ue (fun h=>by cases h) (fun _=>rfl) runUnderlying61 sizeOf3 w4 w4|exact mz (fun h=>by cases h) (fun _=>rfl) runUnderlying61 sizeOf3 w4 w4):p:=h
theorem AE(h:p:=by first|exact vf rfl gr (fun h=>by cases h) runUnderlying61 sizeOf3 w4|exact vf rfl eC (fun h=>by cases h) runUnderlying61 sizeOf3 w4|exact mW (fun _=>rfl) runUnderlying61 sizeOf3 w4|exact mz (fun h=>by cases h) (fun _=>rfl) runUnderlying61 sizeOf3 w4 w4):p:=h
theorem Hg(h:p:=by first|exact vf rfl gr (fun h=>by cases h) runUnderlying127 sizeOf86 w4|exact vf rfl eC (fun h=>by cases h) runUnderlying127 sizeOf86 w4|exact mW (fun _=>rfl) runUnderlying127 sizeOf86 w4|exact mz (fun h=>by cases h) (fun _=>rfl) runUnderlying127 sizeOf86 w4 w4):p:=h
theorem Hh(h:p:=by first|exact nx nB (fun h=>by cases h) runUnderlying42 sizeOf58 w4|exact mW (fun h=>by cases h) runUnderlying42 sizeOf58 w4|exact mz (fun _=>rfl) (fun h=>by cases h) runUnderlying42 sizeOf58 w4 w4):p:=h
theorem Np(h:p:=by first|exact nx gr (fun h=>by cases h) runUnderlying127 sizeOf86 w4|exact mW (fun h=>by cases h) runUnderlying127 sizeOf86 w4|exact ue (fun _=>rfl) (fun h=>by cases h) runUnderlying127 sizeOf86 w4 w4|exact mz (fun _=>rfl) (fun h=>by cases h) runUnderlying127 sizeOf86 w4 w4):p:=h
theorem Nq(h:p:=by first|exact nx eC (fun h=>by cases h) runUnderlying61 sizeOf3 w4|exact mW (fun h=>by cases h) runUnderlying61 sizeOf3 w4|exact ue (fun _=>rfl) (fun h=>by cases h) runUnderlying61 sizeOf3 w4 w4|exact mz (fun _=>rfl) (fun h=>by cases h) runUnderlying61 sizeOf3 w4 w4):p:=h
theorem Nr(h:p:=by first|exact nx jU (fun h=>by cases h) runUnderlying41 sizeOf9 w4|exact nx lV (fun h=>by cases h) runUnderlying41 sizeOf9 w4|exact mW (fun h=>by cases h) runUnderlying41 sizeOf9 w4|exact mz (fun _=>rfl) (fun h=>by cases h) runUnderlying41 sizeOf9 w4 w4):p:=h
theorem Ns(h:p:=by (repeat (first|exact fK|(apply gb;focus (first|rfl|(simp;done)|(congr 2;omega)|(apply eP;first|exact IU aa w4 _|exact IG aa w4 _)|(apply eP;simp[kp])|(apply eP;simp;done)))|(apply fO;focus rfl)));done):p:=h
theorem qO(h:p:=by rw[<-Int.ofNat_sub w4];exact wrap_i64 w4 w4):p:=h
theorem Nt(h:p:=by exact(sg rfl ot (su (r:=((((i+j)/2):Nat):Int)) runUnderlying210 runUnderlying3 (wrap_i64 w4 w4)))):p:=h
theorem Nu(h:p:=by exact(sg rfl ot (su (r:=((i+j:Nat):Int)) runUnderlying3 runUnderlying210 (IntWalk.u64_in _ w4)))):p:=h
theorem Nv(h:p:=by exact(dR rfl ot ot (kN (r:=((i+j:Nat):Int)) (by rw[<-Int.natCast_add];exact wrap_i64 w4 w4)))):p:=h
theorem Dh(h:p:=by exact(dR rfl ot bV (TA w8 ahR))):p:=h
theorem Hi(h:p:=by rw[take_of_length_le w4,take_of_length_le w4] at AB;exact AB):p:=h
theorem Nw(h:p:=by rw[<-show(p.kids.drop 3)=(cA p).kids from vU];simp only[length_take,length_drop];omega):p:=h
theorem Nx(h:p:=by rw[<-show(p.kids.drop 2)=(cA p).kids from vU];simp only[length_take,length_drop];omega):p:=h
theorem Ny(h:p:=by rw[<-show(p.keys.drop 3)=(cA p).keys from vV];simp only[length_take,length_drop];omega):p:=h
theorem Nz(h:p:=by rw[<-show(p.keys.drop 2)=(cA p).keys from vV];simp only[length_take,length_drop];omega):p:=h
theorem vY(h:p:=by rw[length_append];omega):p:=h
theorem Hj(h:p:=by show _=p.kids.take (if p.leaf=true then 2 else 3);rw[fT];rfl):p:=h
theorem Hl(h:p:=by show 0+_*1+1<=_;rw[cm eC,length_set];omega):p:=h
theorem Ho(h:p:=by first|exact .l (j:=a) rfl NA|exact .r (j:=a) rfl NA):p:=h
theorem NB(h:p:=by rw[show(((a+(t+1):Nat):Int)-1)=((a+t:Nat):Int) by omega];exact wrap_i64 w4 w4):p:=h
theorem oV(h:p:=by simpa using h):p:=h
theorem Di(h:p:=by show(-1:Int)<=9223372036854775807;decide):p:=h
theorem ye(h:p:=by rw[length_set];exact gi):p:=h
theorem Hp(h:p:=by exact(sy (ds:=[_,_]) rfl ⟨ot,ot,trivial⟩)):p:=h
theorem s9(h:p:=by simp at aJ;omega):p:=h
theorem rP(h:p:=by rw[<-ho];rfl):p:=h
theorem NC(h:p:=by first|exact .l (j:=a+t+1) rfl w4|exact .r (j:=a+t+1) rfl w4):p:=h
theorem ND(h:p:=by rw[show((j:Int)-1)=((j-1:Nat):Int) by omega];exact wrap_i64 w4 w4):p:=h
theorem yf(h:p:=by rw[g.ay];exact aeW):p:=h
theorem vZ(h:p:=by first|omega|decide):p:=h
theorem Hq(h:p:=by show 0+_*1+1<=_;rw[cm eC];omega):p:=h
theorem NE(h:p:=by unfold dD;rw[if_neg cJ,if_neg en,if_neg fB,if_pos gM,j3]):p:=h
theorem v7(h:p:=by simp[maxLen];omega):p:=h
theorem NF(h:p:=by first|exact .l (j:=a+t) rfl w4|exact .r (j:=a+t) rfl w4):p:=h
theorem NG(h:p:=by rw[eA];exact mem_flatMap.2 ⟨_,getElem_mem d1,hx⟩):p:=h
theorem NH(h:p:=by first|exact .l (j:=a) rfl pE|exact .r (j:=a) rfl pE):p:=h
theorem NI(h:p:=by first|exact .l (j:=j) rfl w4|exact .r (j:=j) rfl w4):p:=h
theorem NJ(h:p:=by unfold xo;rw[Wr,ajm,if_pos (by simpa using cN)];rfl):p:=h
theorem NK(h:p:=by first|exact fun _ hq=>hq|exact fun _ hq=>by cases hq.1):p:=h
theorem uH(h:p:=by exact fN):p:=h
theorem uI(h:p:=by simpa using hl):p:=h
theorem yg(h:p:=by rw[g.ay];decide):p:=h
theorem tc(h:p:=by rw[y1];rfl):p:=h
theorem v8(h:p:=by simpa using aX):p:=h
theorem Dj(h:p:=by rw[length_map];omega):p:=h
theorem Hr(h:p:=by rw[length_append];simp;omega):p:=h
theorem AF(h:p:=by simpa[av] using eo):p:=h
theorem AG(h:p:=by show 1<=10;decide):p:=h
theorem AH(h:p:=by simpa[av] using hj):p:=h
theorem AJ(h:p:=by rw[J7];decide):p:=h
theorem yh(h:p:=by rw[gG];decide):p:=h
theorem NL(h:p:=by show _<=1000;exact Nat.le_of_ble_eq_true rfl):p:=h
theorem xL(h:p:=by simpa using aJ):p:=h
theorem xM(h:p:=by rw[h4];decide):p:=h
theorem Gz(h:p:=by rw[length_set];exact Dk):p:=h
theorem Aa(h:p:=by rw[B4];omega):p:=h
theorem Ab(h:p:=by exact fun _=>rfl):p:=h
theorem L8(h:p:=by rw[<-Int.natCast_add];exact wrap_i64 w4 w4):p:=h
theorem L9(h:p:=by show w.heap.size<(w.heap.push _).size;simp):p:=h
theorem Ma(h:p:=by show(w.heap.push _)[w.heap.size]?=_;simp):p:=h
theorem Mb(h:p:=by rw[cm oJ,length_take];omega):p:=h
theorem uu(h:p:=by assumption):p:=h
theorem GA(h:p:=by simp only[maxLen];omega):p:=h
theorem GB(h:p:=by show i<cs.length;omega):p:=h
theorem z4(h:p:=by
  refine VC.body func17 rfl ntmps17 aU fun X0 w0 bj=>?_;have cR:=dI;have jK:=Bv hm hw ht hG now gn AK;have yj:=Bv hm hw ht hG was gw Hs;have rQ:=IV (G:=G) now.ay was.ay (by rw[gn.ay];decide) (by rw[gw.ay];decide);rw[nW (by rw[gn.ay,gw.ay])] at rQ;have hfn:=gn.ec;have Ht:=gw.ec;unfold cG at jK yj |-;refine bS ?_;refine OD.box (ds:=[_,_,_,_,_]) aq rfl rfl ot rfl rfl (fun b2=>?_);refine OD.box (ds:=[_,_,_,_,_]) aq rfl rfl ot rfl rfl (fun b3=>?_);refine an 77 [2,3] ?_;refine CD.seq ?_;refine CD.seq ?_;rcases Bool.eq_false_or_eq_true (!(now.nm.toList==was.nm.toList)) with hb|hb
  ·have aV:nI was now=([],11):=if_neg (VU hb);refine gl [2,3,41] ?_;refine cf (jK) ?_;refine cf (yj) ?_;refine bA ?_;refine eO ?_;refine af [4,5] ?_;refine CD.wk (Wk.sA (t:=4) (sz:=1) lk) ?_;refine aK [] ?_;rw[aV];exact⟨rfl,rfl⟩
  have aV:nI was now=(fC was.rows now.rows now.rows.length,0):=if_pos (Lu hb);have hle:=hl (Lu hb);refine gl [2,3,41] ?_;refine cf (jK) ?_;refine cf (yj) ?_;refine cf (rQ) ?_;refine bA ?_;refine au ?_ ?_<;>intro aJ bz
  ·exact absurd aJ (by (simp at aJ;omega))
  refine bS ?_;refine bu [2,3,6] ?_;refine af [2,6,43,44,45] ?_;refine ew [2,43,44] (fun aS _ (aO:Nat×List Int×Option Addr×Nat×List ah) aE=>match aO with|(i,acc,dj,cU,Sx)=>(i<=now.rows.length)/\(acc=fC was.rows now.rows i)/\(acc.length<=i)/\(bn 3 1 ((acc).flatMap Tw.cI) (acc).length dj cU Sx)/\aE=(⟨77,(6,aT dj (acc).length cU)::(45,ae (i:Nat))::aS,(⟨b2,68,5,[bg was.nm,ap 2 cC was.ay,ap 1 ev was.rows,ap 5 cP was.ix.ag,ae was.ix.root]⟩::Sx)⟩:St)) (fun (aO:Nat×List Int×Option Addr×Nat×List ah)=>match aO with|(i,acc,dj,cU,Sx)=>now.rows.length-i) (0,([]:List Int),none,0,[]) ⟨(Nat.zero_le _),rfl,(Nat.le_refl _),(bn.cast iR jZ),rfl⟩ ?_;rintro⟨i,acc,dj,cU,Sx⟩ _ ⟨hi,nJ,pE,dP,rfl⟩;refine af [2,6,43,44,45,46] ?_;refine au ?_ ?_<;>intro aX cr
  ·have aa:i<now.rows.length:=(by omega)
   have gN:=zb gn aa;refine af [2,6,7,8,43,44,45] ?_;refine af [2,6,7,8,9,43,44,45] ?_;refine af [2,6,7,8,9,43,44,45,54] ?_;refine au ?_ ?_<;>intro bL cJ
   ·have nK:i<was.rows.length:=(by omega)
    have hq:=IW (G:=G) (now.rows[i]'aa) (was.rows[i]'nK) gN (zb gw nK);refine bM [2,6,7,8,9,43,44,45] ?_;refine CD.seq ?_;rcases Bool.eq_false_or_eq_true (!(gk (now.rows[i]'aa) (was.rows[i]'nK))) with jz|jz
    ·have ox:((!(gk (now.rows.getD i []) (was.rows.getD i [])))||decide (was.rows.length<=i))=true:=(by rw[sB aa,sB nK,jz];rfl)
     refine gl [2,6,7,43,44,45,70] ?_;refine cf (hq) ?_;refine bA ?_;refine eO ?_;refine dw 2 ?_;refine ey (cu 0 [_]) [.int .i64 0] [_] zeroValue3 runUnderlying61 sizeOf3 (fun XS=>?_);refine fD 0 73 1 1 ?_;refine OD.eG (ls:=(acc)) (new:=[(i:Int)]) (Sq:=Sx) Tw.eC Tw.mA aq rfl rfl underlying61 EN rfl w8 ot dP (cZ (A:=[_])) ot bq me mg (fun rR rG Cu Cv=>?_);refine OD.perm (dU (S1:=[⟨rR,3,rG*1,flatMap Tw.cI ((acc)++[(i:Int)])⟩]) (A:=[_])) ?_;refine an 77 [2,6,43,44,45] ?_;refine bM [2,6,43,44,45] ?_;refine⟨((i+1),(acc++[(i:Int)]),(some ⟨rR,0,none⟩),rG,[⟨rR,3,rG*1,flatMap Tw.cI ((acc)++[(i:Int)])⟩]),_,cn,aI,w4,(by rw[tT,if_pos ox,nJ]),vW,(bn.cast (bJ Cu Cv) jZ),rfl⟩
    have ox:((!(gk (now.rows.getD i []) (was.rows.getD i [])))||decide (was.rows.length<=i))=false:=(by rw[sB aa,sB nK,jz,decide_eq_false w4];rfl)
    refine gl [2,6,7,43,44,45,70] ?_;refine cf (hq) ?_;refine bA ?_;refine au ?_ ?_<;>intro cN en
    ·exact absurd cN (by (simp at cN;omega))
    refine bM [2,6,43,44,45] ?_;refine⟨((i+1),acc,dj,cU,Sx),_,cn,aI,w4,(by rw[tT,if_neg (by rw[ox];decide),append_nil];exact nJ),w4,(bn.cast dP jZ),rfl⟩
   have nK:¬i<was.rows.length:=(by omega)
   have hq:=VC.Hu (IW (G:=G) (now.rows[i]'aa) [] gN (Nat.zero_le _)) (args':=[.list 3 ((now.rows[i]'aa).flatMap cV) (now.rows[i]'aa).length,cc]) ⟨eM,fP,trivial⟩;refine CD.skip ?_;refine CD.seq ?_;rcases Bool.eq_false_or_eq_true (!(gk (now.rows[i]'aa) [])) with jz|jz
   ·have ox:((!(gk (now.rows.getD i []) (was.rows.getD i [])))||decide (was.rows.length<=i))=true:=(by rw[sB aa,BM nK,jz];rfl)
    refine gl [2,6,7,43,44,45,70] ?_;refine cf (hq) ?_;refine bA ?_;refine eO ?_;refine dw 2 ?_;refine ey (cu 0 [_]) [.int .i64 0] [_] zeroValue3 runUnderlying61 sizeOf3 (fun XS=>?_);refine fD 0 73 1 1 ?_;refine OD.eG (ls:=(acc)) (new:=[(i:Int)]) (Sq:=Sx) Tw.eC Tw.mA aq rfl rfl underlying61 EN rfl w8 ot dP (cZ (A:=[_])) ot bq me mg (fun rR rG Cu Cv=>?_);refine OD.perm (dU (S1:=[⟨rR,3,rG*1,flatMap Tw.cI ((acc)++[(i:Int)])⟩]) (A:=[_])) ?_;refine an 77 [2,6,43,44,45] ?_;refine bM [2,6,43,44,45] ?_;refine⟨((i+1),(acc++[(i:Int)]),(some ⟨rR,0,none⟩),rG,[⟨rR,3,rG*1,flatMap Tw.cI ((acc)++[(i:Int)])⟩]),_,cn,aI,w4,(by rw[tT,if_pos ox,nJ]),vW,(bn.cast (bJ Cu Cv) jZ),rfl⟩
   have ox:((!(gk (now.rows.getD i []) (was.rows.getD i [])))||decide (was.rows.length<=i))=true:=(by rw[sB aa,BM nK,jz,decide_eq_true w4];rfl)
   refine gl [2,6,7,43,44,45,70] ?_;refine cf (hq) ?_;refine bA ?_;refine au ?_ ?_<;>intro cN en
   ·refine dw 2 ?_;refine ey (cu 0 [_]) [.int .i64 0] [_] zeroValue3 runUnderlying61 sizeOf3 (fun XS=>?_);refine fD 0 73 1 1 ?_;refine OD.eG (ls:=(acc)) (new:=[(i:Int)]) (Sq:=Sx) Tw.eC Tw.mA aq rfl rfl underlying61 EN rfl w8 ot dP (cZ (A:=[_])) ot bq me mg (fun rR rG Cu Cv=>?_);refine OD.perm (dU (S1:=[⟨rR,3,rG*1,flatMap Tw.cI ((acc)++[(i:Int)])⟩]) (A:=[_])) ?_;refine an 77 [2,6,43,44,45] ?_;refine bM [2,6,43,44,45] ?_;refine⟨((i+1),(acc++[(i:Int)]),(some ⟨rR,0,none⟩),rG,[⟨rR,3,rG*1,flatMap Tw.cI ((acc)++[(i:Int)])⟩]),_,cn,aI,w4,(by rw[tT,if_pos ox,nJ]),vW,(bn.cast (bJ Cu Cv) jZ),rfl⟩
   exact absurd cN (by (simp at cN<;>omega))
  have j6:acc=fC was.rows now.rows now.rows.length:=(by rw[nJ,show i=now.rows.length by omega])
  refine af [4,5] ?_;refine CD.gK (t:=4) (Sq:=Sx) lk dP (cm Tw.eC _) (cZ (A:=[_])) ?_;refine aK [] ?_;rw[aV,<-j6];exact⟨rfl,rfl⟩
  ):p:=h
theorem z5(h:p:=by
  refine AD.one (i:=17) aC ?_;refine bC.call rfl aq rfl rfl rfl call133 (P5 p.kids (aQ (t.pg (aL t k h t.root)) k) ci bi oW fI Hv w4) ⟨ot,ot,ot,trivial⟩ (mS (k:=5) rfl) iL ?_;rintro _ _ ⟨rfl,rfl⟩;refine AD.perm (perm_middle (l₁:=[_,_,_,_,_])).symm ?_;refine dm 18 rfl qg ?_;refine dm 19 rfl (dQ 1) ?_;refine AD.one (i:=20) aC ?_;refine bC.storeAt (k:=3) (cs':=flatMap gO (L.set (aL t k h t.root).toNat (⟨{p with keys:=(p.keys.eraseIdx (aQ (t.pg (aL t k h t.root)) k))},some ⟨bk,0,none⟩,ck,[⟨bk,86,ck*1,flatMap cK (p.keys.eraseIdx (aQ (t.pg (aL t k h t.root)) k))⟩],some ⟨bi,0,none⟩,ci,[⟨bi,3,ci*1,flatMap cI p.kids⟩]⟩:aZ))) rfl aq rfl rfl ot rfl rfl ot rfl rfl sizeOf127 rfl (by show 0+(aL t k h t.root).toNat*5+1+1<=(flatMap gO L).length;rw[cm iB];omega) (by show(L.flatMap gO).set (0+(aL t k h t.root).toNat*5+1) _=_;rw[Nat.zero_add];exact wM iB w8 hj (by rw[<-ho];show gO (⟨{p with keys:=(p.keys.eraseIdx (aQ (t.pg (aL t k h t.root)) k))},some ⟨bk,0,none⟩,ck,[⟨bk,86,ck*1,flatMap cK (p.keys.eraseIdx (aQ (t.pg (aL t k h t.root)) k))⟩],some ⟨bi,0,none⟩,ci,[⟨bi,3,ci*1,flatMap cI p.kids⟩]⟩:aZ)=(gO (⟨p,some ⟨bk,0,none⟩,ck,[⟨bk,86,ck*1,flatMap cK p.keys⟩],some ⟨bi,0,none⟩,ci,[⟨bi,3,ci*1,flatMap cI p.kids⟩]⟩:aZ)).set 1 _;unfold gO;rw[length_eraseIdx_of_lt ha];rfl)) iL ?_;refine fm ?_;refine aH 2 ?_
  refine OD.storeAt (k:=3) (cs':=flatMap gO (L.set (aL t k h t.root).toNat (⟨(kS p (aQ (t.pg (aL t k h t.root)) k)),some ⟨bk,0,none⟩,ck,[⟨bk,86,ck*1,flatMap cK (p.keys.eraseIdx (aQ (t.pg (aL t k h t.root)) k))⟩],some ⟨bi,0,none⟩,ci,[⟨bi,3,ci*1,flatMap cI (p.kids.eraseIdx (aQ (t.pg (aL t k h t.root)) k))⟩]⟩:aZ))) aq rfl rfl ot rfl rfl ot rfl rfl sizeOf61 rfl (by show 0+(aL t k h t.root).toNat*5+2+1<=(flatMap gO (L.set (aL t k h t.root).toNat (⟨{p with keys:=(p.keys.eraseIdx (aQ (t.pg (aL t k h t.root)) k))},some ⟨bk,0,none⟩,ck,[⟨bk,86,ck*1,flatMap cK (p.keys.eraseIdx (aQ (t.pg (aL t k h t.root)) k))⟩],some ⟨bi,0,none⟩,ci,[⟨bi,3,ci*1,flatMap cI p.kids⟩]⟩:aZ))).length;rw[cm iB,length_set];omega) (by show(flatMap gO (L.set (aL t k h t.root).toNat (⟨{p with keys:=(p.keys.eraseIdx (aQ (t.pg (aL t k h t.root)) k))},some ⟨bk,0,none⟩,ck,[⟨bk,86,ck*1,flatMap cK (p.keys.eraseIdx (aQ (t.pg (aL t k h t.root)) k))⟩],some ⟨bi,0,none⟩,ci,[⟨bi,3,ci*1,flatMap cI p.kids⟩]⟩:aZ))).set (0+(aL t k h t.root).toNat*5+2) _=_;rw[Nat.zero_add,wM iB (a':=(⟨(kS p (aQ (t.pg (aL t k h t.root)) k)),some ⟨bk,0,none⟩,ck,[⟨bk,86,ck*1,flatMap cK (p.keys.eraseIdx (aQ (t.pg (aL t k h t.root)) k))⟩],some ⟨bi,0,none⟩,ci,[⟨bi,3,ci*1,flatMap cI (p.kids.eraseIdx (aQ (t.pg (aL t k h t.root)) k))⟩]⟩:aZ)) w8 vX (by rw[getElem_set_self];show gO (⟨(kS p (aQ (t.pg (aL t k h t.root)) k)),some ⟨bk,0,none⟩,ck,[⟨bk,86,ck*1,flatMap cK (p.keys.eraseIdx (aQ (t.pg (aL t k h t.root)) k))⟩],some ⟨bi,0,none⟩,ci,[⟨bi,3,ci*1,flatMap cI (p.kids.eraseIdx (aQ (t.pg (aL t k h t.root)) k))⟩]⟩:aZ)=(gO (⟨{p with keys:=(p.keys.eraseIdx (aQ (t.pg (aL t k h t.root)) k))},some ⟨bk,0,none⟩,ck,[⟨bk,86,ck*1,flatMap cK (p.keys.eraseIdx (aQ (t.pg (aL t k h t.root)) k))⟩],some ⟨bi,0,none⟩,ci,[⟨bi,3,ci*1,flatMap cI p.kids⟩]⟩:aZ)).set 2 _;unfold gO kS;simp only[];rw[length_eraseIdx_of_lt oW];rfl),List.set_set]) ?_
  have wc:(⟨bk,86,ck*1,flatMap cK (p.keys.eraseIdx (aQ (t.pg (aL t k h t.root)) k))⟩::⟨bi,3,ci*1,flatMap cI (p.kids.eraseIdx (aQ (t.pg (aL t k h t.root)) k))⟩::((L.eraseIdx (aL t k h t.root).toNat).flatMap bO)).Perm ((L.set (aL t k h t.root).toNat (⟨(kS p (aQ (t.pg (aL t k h t.root)) k)),some ⟨bk,0,none⟩,ck,[⟨bk,86,ck*1,flatMap cK (p.keys.eraseIdx (aQ (t.pg (aL t k h t.root)) k))⟩],some ⟨bi,0,none⟩,ci,[⟨bi,3,ci*1,flatMap cI (p.kids.eraseIdx (aQ (t.pg (aL t k h t.root)) k))⟩]⟩:aZ)).flatMap bO):=(zc bO hj (⟨(kS p (aQ (t.pg (aL t k h t.root)) k)),some ⟨bk,0,none⟩,ck,[⟨bk,86,ck*1,flatMap cK (p.keys.eraseIdx (aQ (t.pg (aL t k h t.root)) k))⟩],some ⟨bi,0,none⟩,ci,[⟨bi,3,ci*1,flatMap cI (p.kids.eraseIdx (aQ (t.pg (aL t k h t.root)) k))⟩]⟩:aZ)).symm;refine OD.perm (Perm.cons _ (Perm.cons _ (Perm.cons _ (Perm.cons _ wc)))) ?_;refine an 58 [4,7] ?_;refine aB 1 ?_;refine aP 1 [_,_] sizeOf66 ?_;refine an 58 [4,5] ?_
  refine aK ([⟨bx,129,cap*5,flatMap gO (L.set (aL t k h t.root).toNat (⟨(kS p (aQ (t.pg (aL t k h t.root)) k)),some ⟨bk,0,none⟩,ck,[⟨bk,86,ck*1,flatMap cK (p.keys.eraseIdx (aQ (t.pg (aL t k h t.root)) k))⟩],some ⟨bi,0,none⟩,ci,[⟨bi,3,ci*1,flatMap cI (p.kids.eraseIdx (aQ (t.pg (aL t k h t.root)) k))⟩]⟩:aZ))⟩]++(L.set (aL t k h t.root).toNat (⟨(kS p (aQ (t.pg (aL t k h t.root)) k)),some ⟨bk,0,none⟩,ck,[⟨bk,86,ck*1,flatMap cK (p.keys.eraseIdx (aQ (t.pg (aL t k h t.root)) k))⟩],some ⟨bi,0,none⟩,ci,[⟨bi,3,ci*1,flatMap cI (p.kids.eraseIdx (aQ (t.pg (aL t k h t.root)) k))⟩]⟩:aZ)).flatMap bO) ?_;unfold rH;rw[if_pos hz,if_pos gG];refine⟨_,rfl,L.set (aL t k h t.root).toNat (⟨(kS p (aQ (t.pg (aL t k h t.root)) k)),some ⟨bk,0,none⟩,ck,[⟨bk,86,ck*1,flatMap cK (p.keys.eraseIdx (aQ (t.pg (aL t k h t.root)) k))⟩],some ⟨bi,0,none⟩,ci,[⟨bi,3,ci*1,flatMap cI (p.kids.eraseIdx (aQ (t.pg (aL t k h t.root)) k))⟩]⟩:aZ),some ⟨bx,0,none⟩,cap,_,by rw[length_set];rfl,bJ ye yl,fun x hx=>?_,?_,rfl⟩
  ·rcases mem_or_eq_of_mem_set hx with hx|rfl
   ·exact aW x hx
   exact⟨bJ (by show(p.keys.eraseIdx (aQ (t.pg (aL t k h t.root)) k)).length<=ck;rw[length_eraseIdx_of_lt ha];omega) ym,bJ (by show(p.kids.eraseIdx (aQ (t.pg (aL t k h t.root)) k)).length<=ci;rw[length_eraseIdx_of_lt oW];omega) Hv⟩
  rw[map_set,hL];show _=t.ag.set (aL t k h t.root).toNat (kS (t.pg (aL t k h t.root)) (aQ (t.pg (aL t k h t.root)) k));rw[<-iv]):p:=h
theorem z6(h:p:=by
  refine VC.body func10 rfl ntmps10 aU fun X0 w0 bj=>?_;have cR:=dI;have jg:=g.ec;have qP:=Qx hm hw ht hG l g;have eY:=pU (G:=G) l w4 nm;have j3:=vg (fun t:az=>t.nm.toList==nm.toList) l;rw[show dK (fun t:az=>t.nm.toList==nm.toList) l=aN l nm from rfl] at j3;refine bS ?_;refine OD.box (ds:=[_]) aq rfl rfl ot rfl rfl (fun b2=>?_);refine an 54 [1,2] ?_;refine cL [1,2,6] (qP) ?_;refine af [1,2,6,17] ?_;refine au ?_ ?_<;>intro aJ bz
  ·exact absurd aJ (by simp at aJ)
  refine cL [2,7] (eY) ?_;refine af [2,7,24] ?_;refine au ?_ ?_<;>intro aX cr
  ·have h0:aN l nm<0:=(by simpa using aX)
   have aV:oM l nm=([],8):=if_pos h0;refine af [4,5] ?_;refine CD.wk (Wk.sA (t:=4) (sz:=1) lk) ?_;refine aK [] ?_;rw[aV];exact⟨rfl,rfl⟩
  have h0:¬aN l nm<0:=(by simpa using aX)
  have bW:(aN l nm).toNat<l.length:=(by omega)
  have td:=g.tb (l[(aN l nm).toNat]'bW) (getElem_mem bW);have iW:l.getD (aN l nm).toNat ⟨nm,[],[],nL⟩=(l[(aN l nm).toNat]'bW):=(by rw[getD_eq_getElem?_getD,getElem?_eq_getElem bW];rfl)
  have aV:oM l nm=((dg (l[(aN l nm).toNat]'bW).ix).map fun x=>rowAt (l[(aN l nm).toNat]'bW) x.2,0):=(by unfold oM;rw[if_neg h0,iW])
  have qh:=TB (G:=G) td.ix;rw[Bw] at qh;unfold Tw.cT at qh;have XT:=TC td;have fj:=U7 (l[(aN l nm).toNat]'bW) (l[(aN l nm).toNat]'bW).rows.length;have NM:=td.ec;refine aB 3 ?_;refine bN (dL 5 (h:=by first|exact .l (j:=(aN l nm).toNat) (Int.toNat_of_nonneg w4).symm bW|exact .r (j:=(aN l nm).toNat) (Int.toNat_of_nonneg w4).symm bW)) ?_;refine aH 1 ?_;refine OD.alloc (ds:=[_,_,_,_,_]) aq rfl rfl zeroValue68 rfl (fun b8=>?_);refine aP 0 [_,_,_,_,_] sizeOf68 ?_;refine an 54 [8] ?_;refine cL [8,9] (qh) ?_;refine bS ?_;refine bu [8,9,11] ?_;refine af [8,11,36,37,38] ?_;refine ew [8,36,37] (fun aS _ (aO:Nat×List (List Vl)×Option Addr×Nat×List ah) aE=>match aO with|(i,acc,dj,cU,Sx)=>(i<=(dg (l[(aN l nm).toNat]'bW).ix).length)/\(acc=((dg (l[(aN l nm).toNat]'bW).ix).take i).map fun x=>rowAt (l[(aN l nm).toNat]'bW) x.2)/\(bn 40 1 ((acc).flatMap ev) (acc).length dj cU Sx)/\aE=(⟨54,(11,aT dj (acc).length cU)::(38,ae (i:Nat))::aS,(⟨b8,68,5,cG (l[(aN l nm).toNat]'bW)⟩::⟨b2,31,1,[ap 5 cG (l)]⟩::Sx)⟩:St)) (fun (aO:Nat×List (List Vl)×Option Addr×Nat×List ah)=>match aO with|(i,acc,dj,cU,Sx)=>(dg (l[(aN l nm).toNat]'bW).ix).length-i) (0,([]:List (List Vl)),none,0,[]) ⟨(Nat.zero_le _),rfl,(bn.cast iR jZ),rfl⟩ ?_;rintro⟨i,acc,dj,cU,Sx⟩ _ ⟨hi,nJ,dP,rfl⟩;refine af [8,11,36,37,38,39] ?_;refine au ?_ ?_<;>intro bL cJ
  ·have aa:i<(dg (l[(aN l nm).toNat]'bW).ix).length:=(by omega)
   obtain⟨iu,eT,oA,NN⟩:=td.gH _ (getElem_mem aa);have kx:rowAt (l[(aN l nm).toNat]'bW) ((dg (l[(aN l nm).toNat]'bW).ix)[i]'aa).2=((l[(aN l nm).toNat]'bW).rows[((dg (l[(aN l nm).toNat]'bW).ix)[i]'aa).2.toNat]'eT):=iS eT;have h4:=oN (td.row _ eT oA).1;have fw:=IY (G:=G) ((l[(aN l nm).toNat]'bW).rows[((dg (l[(aN l nm).toNat]'bW).ix)[i]'aa).2.toNat]'eT) w4;have pE:acc.length=i:=(by rw[nJ,length_map,length_take];omega)
   refine aB 2 ?_;refine OD.alloc (ds:=[_,_]) aq rfl rfl zeroValue88 rfl (fun mK=>?_);refine aP 0 [_,_] sizeOf88 ?_;refine an 54 [8,11,13,36,37,38] ?_;refine dw 5 ?_;refine bN (dL 1 (h:=by first|exact .l (j:=((dg (l[(aN l nm).toNat]'bW).ix)[i]'aa).2.toNat) (Int.toNat_of_nonneg iu).symm eT|exact .r (j:=((dg (l[(aN l nm).toNat]'bW).ix)[i]'aa).2.toNat) (Int.toNat_of_nonneg iu).symm eT)) ?_;refine aH 1 ?_;refine ez call30 (fw) ?_;refine ey (cu 0 [_]) [.slice none 0 0] [_] zeroValue40 runUnderlying33 sizeOf40 (fun AL=>?_);refine fD 0 50 1 1 ?_;refine OD.eG (ls:=(acc)) (new:=[((l[(aN l nm).toNat]'bW).rows[((dg (l[(aN l nm).toNat]'bW).ix)[i]'aa).2.toNat]'eT)]) (Sq:=Sx) js RA aq rfl rfl underlying33 P6 rfl w8 ot dP (cZ (A:=[_,_,_])) ot bq me mg (fun qi xN Mc Md=>?_);refine OD.perm (dU (S1:=[⟨qi,40,xN*1,flatMap ev ((acc)++[((l[(aN l nm).toNat]'bW).rows[((dg (l[(aN l nm).toNat]'bW).ix)[i]'aa).2.toNat]'eT)])⟩]) (A:=[_,_,_])) ?_;refine an 54 [8,11,36,37,38] ?_;refine bM [8,11,36,37,38] ?_
   refine⟨((i+1),(acc++[((l[(aN l nm).toNat]'bW).rows[((dg (l[(aN l nm).toNat]'bW).ix)[i]'aa).2.toNat]'eT)]),(some ⟨qi,0,none⟩),xN,[⟨qi,40,xN*1,flatMap ev ((acc)++[((l[(aN l nm).toNat]'bW).rows[((dg (l[(aN l nm).toNat]'bW).ix)[i]'aa).2.toNat]'eT)])⟩]),_,cn,aI,w4,(by rw[nJ,<-kx,<-pR aa,map_append];rfl),(bn.cast (bJ Mc Md) jZ),rfl⟩
  have j6:acc=(dg (l[(aN l nm).toNat]'bW).ix).map fun x=>rowAt (l[(aN l nm).toNat]'bW) x.2:=(by rw[nJ,take_of_length_le w4])
  refine af [4,5] ?_;refine CD.gK (t:=4) (Sq:=Sx) lk dP (cm js _) (cZ (A:=[_,_])) ?_;refine aK [] ?_;rw[aV,<-j6];exact⟨rfl,rfl⟩
  ):p:=h
theorem z7(h:p:=by
  refine AD.one (i:=15) aC ?_;refine bC.eG (ls:=L) (new:=[(⟨(t.ag[i]'aa),iX,iY,Sy,mh,mi,Sz⟩:aZ)]) (Sq:=Sx) iB FW rfl aq rfl rfl underlying64 aap rfl w8 ot dP (RB (A:=[_,_,_])) ot bq me mg (fun Hw GC ajn ajo=>?_);refine AD.perm (adb (S3:=[⟨Hw,129,GC*5,flatMap gO (L++[(⟨(t.ag[i]'aa),iX,iY,Sy,mh,mi,Sz⟩:aZ)])⟩]) (A:=[_,_,_])) ?_;refine AD.perm (S':=⟨b5,129,5,cP (t.ag[i]'aa)⟩::⟨b3,66,2,[aT dj L.length cU,ae t.root]⟩::⟨b2,66,2,[cc,ae 0]⟩::([⟨Hw,129,GC*5,flatMap gO (L++[(⟨(t.ag[i]'aa),iX,iY,Sy,mh,mi,Sz⟩:aZ)])⟩]++(L++[(⟨(t.ag[i]'aa),iX,iY,Sy,mh,mi,Sz⟩:aZ)]).flatMap bO)) (jB fun lM=>by rw[TD];simp only[bO,map_append,map_cons,map_nil,sum_append,sum_cons,sum_nil];omega) ?_;refine fm ?_;refine aH 1 ?_;refine aP 1 [_,_] sizeOf64 ?_;refine an 51 [2,3,13,14,15] ?_;refine bM [2,3,13,14,15] ?_;refine⟨((i+1),(L++[(⟨(t.ag[i]'aa),iX,iY,Sy,mh,mi,Sz⟩:aZ)]),(some ⟨Hw,0,none⟩),GC,[⟨Hw,129,GC*5,flatMap gO (L++[(⟨(t.ag[i]'aa),iX,iY,Sy,mh,mi,Sz⟩:aZ)])⟩]),_,cn,aI,w4,we,kr,(bJ ajn ajo),rfl⟩):p:=h
theorem z8(h:p:=by
  refine qj 13 rfl ?_;refine qj 16 rfl ?_;refine AD.two (i:=14) (j:=17) aC ?_ ?_
  ·refine bC.skip rfl (mT rfl rfl rfl lk jJ) rfl ?_;refine AD.two (i:=15) (j:=17) aC ?_ ?_
   ·refine bC.skip rfl (mT rfl rfl rfl lk jJ) rfl ?_;refine AD.one (i:=17) aC ?_;refine bC.skip rfl (mT rfl rfl rfl lk jJ) rfl ?_;refine qj 18 rfl ?_;refine qj 19 rfl ?_;refine dm 20 rfl vF ?_;refine fm ?_;refine bu [3] ?_;refine af [52] ?_;refine eO ?_;refine af [2] ?_;refine eZ ?_;refine⟨vi ?_,rfl⟩;try simp only[vh] at *
    simp only[um,oK];try simp_all
    try omega
   refine bC.skip rfl (mT rfl rfl rfl lk jJ) rfl ?_;refine qj 18 rfl ?_;refine AD.one (i:=15) aC ?_;refine bC.skip rfl (mT rfl rfl rfl lk jJ) rfl ?_;refine qj 19 rfl ?_;refine dm 20 rfl vF ?_;refine fm ?_;refine bu [3] ?_;refine af [52] ?_;refine eO ?_;refine af [2] ?_;refine eZ ?_;refine⟨vi ?_,rfl⟩;try simp only[vh] at *
   simp only[um,oK];try simp_all
   try omega
  refine bC.skip rfl (mT rfl rfl rfl lk jJ) rfl ?_;refine qj 18 rfl ?_;refine AD.one (i:=14) aC ?_;refine bC.skip rfl (mT rfl rfl rfl lk jJ) rfl ?_;refine AD.one (i:=15) aC ?_;refine bC.skip rfl (mT rfl rfl rfl lk jJ) rfl ?_;refine qj 19 rfl ?_;refine dm 20 rfl vF ?_;refine fm ?_;refine bu [3] ?_;refine af [52] ?_;refine eO ?_;refine af [2] ?_;refine eZ ?_;refine⟨vi ?_,rfl⟩;try simp only[vh] at *
  simp only[um,oK];try simp_all
  try omega):p:=h
theorem Hx(h:p:=by
  refine⟨vb (E7 fun hp=>?_),rfl⟩;have g1:=hp.ec;have g2:=hp.hlen;have g3:=hp.xO;have g4:=hp.xB;have g5:=hp.xP;have g6:=hp.leaf;have g7:=fun h=>(hp.node h).1;have g8:=fun h (e:p.keys.length=0)=>(hp.node h).2 (length_eq_zero_iff.1 e);clear hp;first|omega|(rw[ahS g5] at aJ;cases aJ;done)|(have:=g6 rI;omega)|(have fT:p.leaf=false:=(by simpa using uv);have:=g7 fT;omega)|(have fT:p.leaf=false:=(by simpa using uv);exact g8 fT w4)):p:=h
theorem uJ(h:p:=by
  refine aP 0 [_,_,_] sizeOf56 ?_;refine an 106 [6,7] ?_;refine aK [] ?_;rw[aV];first|exact⟨rfl,rfl⟩|(refine⟨?_,rfl⟩;clear aV fw Hy oX lN qP nO;generalize (jl a b==0)=z1 at *;generalize (decide (jl a b<0))=z2 at *;subst_vars;simp_all;done)):p:=h
theorem z12(h:p:=by
  have hnd:=wN g s.aj;have fX:=rq g s.aj;have gA:∀c (l:List Int) (vs:List Vl) (t:az),(eH c t l vs).nm=t.nm/\(eH c t l vs).ay=t.ay:=fun c l=>by
   induction l with
   | nil=>intro vs t;unfold eH;exact⟨rfl,rfl⟩
   | cons i r ih=>intro vs t;cases vs with
    | nil=>unfold eH;exact⟨rfl,rfl⟩
    | cons v s=>rw[eH];exact ih s _
  have AM:∀(l:List Int) (vs:List Vl) (t:az),(gd t l vs).1.nm=t.nm/\(gd t l vs).1.ay=t.ay:=fun l=>by
   induction l with
   | nil=>intro vs t;unfold gd;exact⟨rfl,rfl⟩
   | cons i r ih=>intro vs t;cases vs with
    | nil=>unfold gd;exact⟨rfl,rfl⟩
    | cons v s =>
     rw[gd];split
     ·exact⟨rfl,rfl⟩
     exact ih s _
  unfold eS at hz |-;by_cases hA:bE t.ay s.set<0
  ·rw[if_pos hA] at hz;cases hz
  rw[if_neg hA] at hz |-;by_cases hB:(eu t.ay s.bF).2≠0
  ·rw[if_pos hB] at hz;exact absurd hz hB
  rw[if_neg hB] at hz |-;by_cases hC:(eu t.ay s.bF).1≠(t.ay.getD (bE t.ay s.set).toNat ⟨⟨#[]⟩,0⟩).k/\(eu t.ay s.bF).1≠0
  ·rw[if_pos hC] at hz;cases hz
  rw[if_neg hC] at hz |-;by_cases hD:(ax t s.aj).2≠0
  ·rw[if_pos hD] at hz;exact absurd hz hD
  rw[if_neg hD] at hz |-;by_cases hN:(iC t (bE t.ay s.set) s.bF [] (ax t s.aj).1).2≠0
  ·rw[if_pos hN] at hz;exact absurd hz hN
  rw[if_neg hN] at hz |-;have hlen:=Jr (t:=t) (c:=bE t.ay s.set) (e:=s.bF) (ax t s.aj).1 [] (Classical.not_not.1 hN);have iG:(ax t s.aj).1.length=(iC t (bE t.ay s.set) s.bF [] (ax t s.aj).1).1.length:=(by rw[hlen];simp)
  have key:∀c (x:az),x.rows=t.rows->∀j:Nat,(j:Int)∉(ax t s.aj).1->(eH c x (ax t s.aj).1 (iC t (bE t.ay s.set) s.bF [] (ax t s.aj).1).1).rows.getD j []=t.rows.getD j []:=fun c x hx j hj=>by
   obtain⟨_,p2,_⟩:=E8 (c:=c) (ax t s.aj).1 _ x hnd iG fun i hi=>⟨(fX i hi).1,by rw[hx];exact(fX i hi).2.1⟩
   rw[rf,p2 _ (Int.natCast_nonneg _) hj,<-rf,hx]
  by_cases hP:0<bE t.ay s.set
  ·rw[if_pos hP];exact⟨Bx _ _ _ _,rfl,(gA _ _ _ _).1,(gA _ _ _ _).2,key _ t rfl⟩
  rw[if_neg hP] at hz |-;by_cases hM:(gd {t with ix:=nD t t.ix (ax t s.aj).1} (ax t s.aj).1 (iC t (bE t.ay s.set) s.bF [] (ax t s.aj).1).1).2≠0
  ·rw[if_pos hM] at hz;exact absurd hz hM
  rw[if_neg hM];have hr:=EO _ _ _ (Classical.not_not.1 hM);refine⟨?_,rfl,(AM _ _ _).1,(AM _ _ _).2,fun j hj=>?_⟩
  ·show(gd _ _ _).1.rows.length=_;rw[hr];exact Bx _ _ _ _
  show(gd _ _ _).1.rows.getD j []=_;rw[hr];exact key 0 {t with ix:=nD t t.ix (ax t s.aj).1} rfl j hj):p:=h
theorem XU(h:p:=by
  have NQ:((bw[bw.length-1].k==6) || !(((dK (mB key) (bw.take 2))==0)==nt))=true:=(by first|rw[Lv,Bool.true_or]|rw[iw,Bool.or_true])
  have Dl:(gz key (f+1) ops (lo,hi))=sH (gg [bw[(dK ik (bw.take 2)).toNat].v]).1 b1:=(by rw[VV];unfold vG;rw[show((bw[bw.length-1].k==6)||((dK (mB key) (bw.take 2))==0)!=nt)=true from NQ,<-iM];rfl)
  refine aB 7 ?_;refine bZ 141 (fun ahT agw=>?_) (fun ahT agw=>?_)
  ·refine bu [0,11,149] ?_;refine eO ?_;have tg:b1.2.length=0\/compareBytes (gg [bw[(dK ik (bw.take 2)).toNat].v]).1 b1.2<0:=(by first|exact .inl w4|exact .inr (by simpa using iy))
   have th:(gz key (f+1) ops (lo,hi))=(b1.1,(gg [bw[(dK ik (bw.take 2)).toNat].v]).1):=(by rw[Dl];unfold sH;rw[if_pos tg])
   refine dw 2 ?_;refine ez call70 (Js (gg [bw[(dK ik (bw.take 2)).toNat].v]).1 w4) ?_;refine aH 2 ?_;refine aP 0 [_,_] sizeOf86 ?_;refine an 155 [] ?_;refine aK [⟨b0,_,_,_⟩] ?_;refine⟨rfl,?_⟩;first|rw[th]|rw[aV]
  refine aH 5 ?_;refine OD.iD iN rfl rfl rfl call53 (TE (gg [bw[(dK ik (bw.take 2)).toNat].v]).1 b1.2) ⟨ot,ot,trivial⟩ ?_;refine an 155 [0,11,149] ?_;refine au ?_ ?_<;>intro iy mF
  ·have tg:b1.2.length=0\/compareBytes (gg [bw[(dK ik (bw.take 2)).toNat].v]).1 b1.2<0:=(by first|exact .inl w4|exact .inr (by simpa using iy))
   have th:(gz key (f+1) ops (lo,hi))=(b1.1,(gg [bw[(dK ik (bw.take 2)).toNat].v]).1):=(by rw[Dl];unfold sH;rw[if_pos tg])
   refine dw 2 ?_;refine ez call70 (Js (gg [bw[(dK ik (bw.take 2)).toNat].v]).1 w4) ?_;refine aH 2 ?_;refine aP 0 [_,_] sizeOf86 ?_;refine an 155 [] ?_;refine aK [⟨b0,_,_,_⟩] ?_;refine⟨rfl,?_⟩;first|rw[th]|rw[aV]
  have tg:¬(b1.2.length=0\/compareBytes (gg [bw[(dK ik (bw.take 2)).toNat].v]).1 b1.2<0):=(by (have XV:¬compareBytes (gg [bw[(dK ik (bw.take 2)).toNat].v]).1 b1.2<0:=by simpa using iy);omega)
  have th:(gz key (f+1) ops (lo,hi))=b1:=(by rw[Dl];unfold sH;rw[if_neg tg])
  refine aK [⟨b0,_,_,_⟩] ?_;refine⟨rfl,?_⟩;first|rw[th]|rw[aV]):p:=h
theorem XW(h:p:=by
  refine aB 1 ?_;refine OD.wk (Wk.ee (n:=19) (l':=[(0,_),(1,_)]) (S':=S) rfl nj fE) ?_;refine OD.nil ?_;refine aB 3 ?_;refine OD.wk (Wk.ee (n:=19) (l':=[(0,_),(1,_),(7,_),(8,_)]) (S':=S) rfl nj fE) ?_;refine OD.nil ?_;refine ew [0,1,7] (fun aS _ (k:Nat) aE=>(k<=ls.length)/\(∀x∈ls.take k,p x=false)/\aE=(⟨19,(8,ae (k:Nat))::aS,S⟩:St)) (fun (k:Nat)=>ls.length-k) 0 ⟨Nat.zero_le _,bq,rfl⟩ ?_;rintro k _ ⟨hk,h0,rfl⟩;refine aB 1 ?_;refine OD.wk (Wk.ee (n:=19) (l':=[(0,_),(1,_),(7,_),(8,_),(9,_)]) (S':=S) rfl nj fE) ?_;refine OD.nil ?_;refine au ?_ ?_<;>intro aJ bz
  ·refine aB 2 ?_;refine OD.wk (Wk.ee (n:=19) (l':=[(0,_),(1,_),(5,_),(7,_),(8,_)]) (S':=S) rfl nj fE) ?_;refine OD.nil ?_;refine aB 5 ?_;refine OD.lY (f:=g) (args:=[_]) aq rfl rfl (uf rfl lk) fy (hp (ls[k]'w4) (getElem_mem _)) rfl ⟨uf rfl lk,trivial⟩ (Jt _) ?_;rintro _ S2 ⟨rfl,iZ⟩;rw[iZ];clear iZ;refine OD.wk (Wk.ee (n:=19) (l':=[(0,_),(1,_),(5,_),(7,_),(8,_),(16,_)]) (S':=S) rfl nj fE) ?_;refine OD.nil ?_;refine au ?_ ?_<;>intro aX cr
   ·refine aB 2 ?_;refine OD.wk (Wk.ee (n:=19) (l':=[(4,_)]) (S':=S) rfl nj fE) ?_;refine OD.nil ?_;refine aK S ?_;refine⟨?_,rfl⟩;first|(rw[tU w4 h0 uu])|(rw[wO w4 h0])
   refine dw 2 ?_;refine OD.wk (Wk.ee (n:=19) (l':=[(0,_),(1,_),(7,_),(8,_)]) (S':=S) rfl nj fE) ?_;refine OD.nil ?_;refine⟨k+1,_,cn,aI,w4,(by rw[take_succ_eq_append_getElem w4];intro x hx;rcases mem_append.1 hx with hx|hx;exact h0 x hx;simp only[mem_singleton] at hx;subst hx;assumption),rfl⟩
  refine aB 1 ?_;refine OD.wk (Wk.ee (n:=19) (l':=[(4,_)]) (S':=S) rfl nj fE) ?_;refine OD.nil ?_;refine aK S ?_;refine⟨?_,rfl⟩;first|(rw[tU w4 h0 uu])|(rw[wO w4 h0])
  ):p:=h
theorem NR(h:p:=by
  refine af [2] ?_;refine eZ ?_;refine⟨vi ?_,rfl⟩;try simp only[vh] at *
  simp only[um,oK];try simp_all
  try omega):p:=h
theorem XX(h:p:=by
  refine cL [1,3] (RC hm hw s.names (by have:=hf.ok.2.2.1;omega) hf.n) ?_;refine af [1,3,36] ?_;refine au ?_ ?_<;>intro cN en
  ·refine af [2] ?_;refine eZ ?_;refine⟨vi ?_,rfl⟩;unfold px ja;simp_all;all_goals (try (intros;(repeat' split)<;>first|rfl|omega))
  refine cL [1,4] (EP hm hw s.aj (fun o h=>(hf.w o h).1)) ?_;refine af [1,4,42] ?_;refine au ?_ ?_<;>intro dW fB
  ·refine af [2] ?_;refine eZ ?_;refine⟨vi ?_,rfl⟩;unfold px ja;simp_all;all_goals (try (intros;(repeat' split)<;>first|rfl|omega))
  refine af [1,46] ?_;refine au ?_ ?_<;>intro fF gM
  ·refine cL [2] (vj hm hw s.order hf.o) ?_;refine eZ ?_;refine⟨vi ?_,rfl⟩;unfold px ja;simp_all;all_goals (try (intros;(repeat' split)<;>first|rfl|omega))
  refine af [2] ?_;refine eZ ?_;refine⟨vi ?_,rfl⟩;unfold px ja;simp_all;all_goals (try (intros;(repeat' split)<;>first|rfl|omega))):p:=h
theorem Hz(h:p:=by
  refine an 76 [11,12] ?_;refine af [12,74] ?_;refine au ?_ ?_<;>intro vH Ga
  ·refine af [8,9] ?_;refine aK [] ?_;refine⟨?_,rfl⟩;unfold jD okF xQ;simp_all
  refine af [8,9] ?_;refine aK [] ?_;refine⟨?_,rfl⟩;unfold jD okF xQ;simp_all):p:=h
theorem AN(h:p:=by
  refine af [8,9] ?_;refine aK [] ?_;refine⟨?_,rfl⟩;unfold jD okF xQ;simp_all):p:=h
theorem NT(h:p:=by
  refine⟨vi ?_,rfl⟩;try simp only[vh] at *
  simp only[um,oK];try simp_all
  try omega):p:=h
theorem z20(h:p:=by
  refine eZ ?_;refine⟨vi ?_,rfl⟩;unfold px ja;simp_all;all_goals (try (intros;(repeat' split)<;>first|rfl|omega))):p:=h
theorem z21(h:p:=by
  refine⟨vi ?_,rfl⟩;unfold px ja;simp_all;all_goals (try (intros;(repeat' split)<;>first|rfl|omega))):p:=h
theorem z22(h:p:=by
  refine VC.body func36 rfl ntmps36 aU fun X0 w0 bj=>?_;have cR:=dI;refine af [0,1] ?_;refine af [0,1,10] ?_;refine au ?_ ?_<;>intro aJ bz
  ·have dN:gk a b=false:=ug fun e=>by rw[e] at aJ;simp at aJ
   refine af [4] ?_;refine aK [] ?_;rw[dN];exact⟨rfl,rfl⟩
  have iG:a.length=b.length:=(by simp at aJ;omega)
  refine af [0,1,12,13] ?_;refine ew [0,1,12] (fun aS _ (i:Nat) aE=>(i<=a.length)/\(a.take i=b.take i)/\aE=(⟨26,(13,ae (i:Nat))::aS,[]⟩:St)) (fun (i:Nat)=>a.length-i) 0 ⟨(Nat.zero_le _),rfl,rfl⟩ ?_;rintro i _ ⟨hi,AB,rfl⟩;refine af [0,1,12,13,14] ?_;refine au ?_ ?_<;>intro aX cr
  ·have aa:i<a.length:=(by omega)
   have og:i<b.length:=(by omega)
   refine af [0,1,5,12,13] ?_;refine cz [0,1,12,13,24] ?_;refine aR 8 ?_ (h:=by exact(EQ rfl ot ot eqGuardType56 (Go.Proofs.YtbplamgacibdaaaGreatDoor.Vl.Gb _ _)));refine iz ?_;refine au ?_ ?_<;>intro bL cJ
   ·have hne:¬a[i]'aa=b[i]'og:=fun e=>by rw[e] at bL;exact absurd bL bq
    have dN:gk a b=false:=ug fun e=>hne (by subst e;rfl);refine af [4] ?_;refine aK [] ?_;rw[dN];exact⟨rfl,rfl⟩
   have He:a[i]'aa=b[i]'og:=TF.1 (by simpa[AO] using bL);refine bM [0,1,12,13] ?_;refine⟨(i+1),_,cn,aI,w4,G9,rfl⟩
  have dN:gk a b=true:=nW Hi;refine af [4] ?_;refine aK [] ?_;rw[dN];exact⟨rfl,rfl⟩
  ):p:=h
theorem XY(h:p:=by
  refine VC.body func19 rfl ntmps19 aU fun X0 w0 bj=>?_;have cR:=dI;refine af [0,1] ?_;refine af [0,1,10] ?_;refine au ?_ ?_<;>intro aJ bz
  ·have dN:gk a b=false:=ug fun e=>by rw[e] at aJ;simp at aJ
   refine af [4] ?_;refine aK [] ?_;rw[dN];exact⟨rfl,rfl⟩
  have iG:a.length=b.length:=(by simp at aJ;omega)
  refine af [0,1,5] ?_;refine ew [0,1] (fun aS _ (i:Nat) aE=>(i<=a.length)/\(a.take i=b.take i)/\aE=(⟨26,(5,ae (i:Nat))::aS,[]⟩:St)) (fun (i:Nat)=>a.length-i) 0 ⟨(Nat.zero_le _),rfl,rfl⟩ ?_;rintro i _ ⟨hi,AB,rfl⟩;refine af [0,1,5,14] ?_;refine au ?_ ?_<;>intro aX cr
  ·have aa:i<a.length:=(by omega)
   have og:i<b.length:=(by omega)
   refine cz [0,1,5,25] ?_;refine aR 8 ?_ (h:=by exact(EQ rfl ot ot eqGuardType56 (Go.Proofs.YtbplamgacibdaaaGreatDoor.Vl.Gb _ _)));refine iz ?_;refine au ?_ ?_<;>intro bL cJ
   ·have hne:¬a[i]'aa=b[i]'og:=fun e=>by rw[e] at bL;exact absurd bL bq
    have dN:gk a b=false:=ug fun e=>hne (by subst e;rfl);refine af [4] ?_;refine aK [] ?_;rw[dN];exact⟨rfl,rfl⟩
   have He:a[i]'aa=b[i]'og:=(by have h3:AO (a[i]'aa) (b[i]'og)=true:=(by simpa[AO] using bL);exact TF.1 h3)
   refine bM [0,1,5] ?_;refine⟨(i+1),_,cn,aI,w4,G9,rfl⟩
  have dN:gk a b=true:=nW Hi;refine af [4] ?_;refine aK [] ?_;rw[dN];exact⟨rfl,rfl⟩
  ):p:=h
theorem z24(h:p:=by
  refine VC.body func35 rfl ntmps35 aU fun X0 w0 bj=>?_;have cR:=dI;refine af [0,1] ?_;refine af [0,1,10] ?_;refine au ?_ ?_<;>intro aJ bz
  ·have dN:gk a b=false:=ug fun e=>by rw[e] at aJ;simp at aJ
   refine af [4] ?_;refine aK [] ?_;rw[dN];exact⟨rfl,rfl⟩
  have iG:a.length=b.length:=(by simp at aJ;omega)
  refine af [0,1,12,13] ?_;refine ew [0,1,12] (fun aS _ (i:Nat) aE=>(i<=a.length)/\(a.take i=b.take i)/\aE=(⟨26,(13,ae (i:Nat))::aS,[]⟩:St)) (fun (i:Nat)=>a.length-i) 0 ⟨(Nat.zero_le _),rfl,rfl⟩ ?_;rintro i _ ⟨hi,AB,rfl⟩;refine af [0,1,12,13,14] ?_;refine au ?_ ?_<;>intro aX cr
  ·have aa:i<a.length:=(by omega)
   have og:i<b.length:=(by omega)
   refine af [0,1,5,12,13] ?_;refine cz [0,1,12,13,24] ?_;refine aR 8 ?_ (h:=by exact(EQ rfl ot ot eqGuardType93 (Ws _ _)));refine iz ?_;refine au ?_ ?_<;>intro bL cJ
   ·have hne:¬a[i]'aa=b[i]'og:=fun e=>by rw[e] at bL;exact absurd bL bq
    have dN:gk a b=false:=ug fun e=>hne (by subst e;rfl);refine af [4] ?_;refine aK [] ?_;rw[dN];exact⟨rfl,rfl⟩
   have He:a[i]'aa=b[i]'og:=TG.1 (by simpa[AO] using bL);refine bM [0,1,12,13] ?_;refine⟨(i+1),_,cn,aI,w4,G9,rfl⟩
  have dN:gk a b=true:=nW Hi;refine af [4] ?_;refine aK [] ?_;rw[dN];exact⟨rfl,rfl⟩
  ):p:=h
theorem XZ(h:p:=by
  refine VC.body func11 rfl ntmps11 aU fun X0 w0 bj=>?_;have cR:=dI;refine af [0,1] ?_;refine af [0,1,10] ?_;refine au ?_ ?_<;>intro aJ bz
  ·have dN:gk a b=false:=ug fun e=>by rw[e] at aJ;simp at aJ
   refine af [4] ?_;refine aK [] ?_;rw[dN];exact⟨rfl,rfl⟩
  have iG:a.length=b.length:=(by simp at aJ;omega)
  refine af [0,1,5] ?_;refine ew [0,1] (fun aS _ (i:Nat) aE=>(i<=a.length)/\(a.take i=b.take i)/\aE=(⟨27,(5,ae (i:Nat))::aS,[]⟩:St)) (fun (i:Nat)=>a.length-i) 0 ⟨(Nat.zero_le _),rfl,rfl⟩ ?_;rintro i _ ⟨hi,AB,rfl⟩;refine af [0,1,5,14] ?_;refine au ?_ ?_<;>intro aX cr
  ·have aa:i<a.length:=(by omega)
   have og:i<b.length:=(by omega)
   refine cL [0,1,5,26] (E9 (a[i]'aa) (b[i]'og) (ra _ (getElem_mem aa)) (rb _ (getElem_mem og))) ?_;refine au ?_ ?_<;>intro bL cJ
   ·have hne:¬a[i]'aa=b[i]'og:=fun e=>by rw[nW e] at bL;cases bL
    have dN:gk a b=false:=ug fun e=>hne (by subst e;rfl);refine af [4] ?_;refine aK [] ?_;rw[dN];exact⟨rfl,rfl⟩
   have He:a[i]'aa=b[i]'og:=(by cases h3:gk (a[i]'aa) (b[i]'og) with|false=>(rw[h3] at bL;cases bL)|true=>exact TH h3)
   refine bM [0,1,5] ?_;refine⟨(i+1),_,cn,aI,w4,G9,rfl⟩
  have dN:gk a b=true:=nW Hi;refine af [4] ?_;refine aK [] ?_;rw[dN];exact⟨rfl,rfl⟩
  ):p:=h
theorem X3(h:p:=by
  skip;refine nk 20 [0,2,3,8,9,59,64,69,74] ?_;refine aR 4 ?_ (h:=by exact(dz (mk:=Op.load 3) rfl ot (vv (g:=Ph.cs) (ls:=ps) (i:=k) (j:=1) zy isAgg3 aa rfl)));refine aR 4 ?_ (h:=by exact(dz (mk:=Op.load 3) rfl ot (vv (g:=Ph.cs) (ls:=ps) (i:=k) (j:=2) zy isAgg3 aa rfl)));refine aR 4 ?_ (h:=by exact(dz (mk:=Op.load 3) rfl ot (vv (g:=Ph.cs) (ls:=ps) (i:=k) (j:=3) zy isAgg3 aa rfl)));refine aR 4 ?_ (h:=by exact(dz (mk:=Op.load 23) rfl ot (vv (g:=Ph.cs) (ls:=ps) (i:=k) (j:=4) zy isAgg23 aa rfl)));refine iz ?_;refine aH 1 ?_;refine OD.call aq rfl rfl rfl call9 (VC.Hu (U8 hm hw ht hG (⟨2,(ps[k]'aa).t,(ps[k]'aa).a,(ps[k]'aa).b,(ps[k]'aa).row,.mk 0 0 ⟨#[]⟩ [],.mk 0 0 ⟨#[]⟩ [],false⟩:Ph) ⟨(show(-9223372036854775808:Int)<=2/\(2:Int)<=9223372036854775807 by decide),rS.t,rS.a,rS.b,rS.row,U9,U9⟩) (args':=[.agg [ae 2,ae (ps[k]'aa).t,ae (ps[k]'aa).a,ae (ps[k]'aa).b,.list 3 ((ps[k]'aa).row.flatMap cV) (ps[k]'aa).row.length,ae 0,ae 0,gh,cc,ae 0,ae 0,gh,cc,bP false]]) ⟨KZ ⟨eM,eM,eM,eM,eM,eM,eM,eM,fP,eM,eM,eM,fP,eM,trivial⟩,trivial⟩) ⟨ot,trivial⟩ (eX _) ?_;rintro _ _ ⟨s',rfl,rfl,ajp,ajq⟩;have hk9:s'.kind=3:=ajq.trans (show(1:Int)+cx 2 6=3 by decide);have ajr:¬s'.kind=1/\¬s'.kind=2:=(by omega)
  refine aP 0 [_,_,_,_,_,_,_,_,_,_,_,_] sizeOf44 ?_;refine an 88 [0,2,3,8,9] ?_;refine⟨_,aI,s',ajp,ajr,rfl⟩):p:=h
theorem X4(h:p:=by
  refine bZ 103 (fun Cb agx=>?_) (fun Cb agx=>?_)
  ·refine aH 3 ?_;refine OD.iD iN rfl rfl rfl call53 (xp p.keys[i] p.high) ⟨ot,ot,trivial⟩ ?_;refine an 132 [1,2,73,74,75,110] ?_;refine au ?_ ?_<;>intro cN en
   ·have oQ:¬vw p i:=fun hk=>by obtain⟨k1,k2,k3⟩:=hk aa;unfold bG at k2 k3;first|(rw[k1] at xR;cases xR;done)|(have:=k2 w4;omega)|(have:=k3 (K0 Cb);have hx:=of_decide_eq_true cN;omega)
    refine af [4] ?_;refine aK [] ?_;refine⟨vb (E7 fun hp=>?_),rfl⟩;exact oQ (TI hp i)
   have hK:vw p i:=fun _=>⟨by simpa using xR,fun h0=>by unfold bG;first|(exfalso;omega)|(have hx:=of_decide_eq_false Ac;omega),fun hne=>by first|exact absurd (len_nil Cb) hne|(unfold bG;have hx:=of_decide_eq_false cN;omega)⟩
   refine bM [1,2,73,74,75] ?_;refine⟨(i+1),_,cn,aI,w4,(fun j hj=>by rcases Nat.lt_or_ge j i with h|h;exact yn j h;obtain rfl:j=i:=w4;exact hK),rfl⟩
  refine an 132 [1,2,73,74,75,110] ?_;refine gm ?_;have hK:vw p i:=fun _=>⟨by simpa using xR,fun h0=>by unfold bG;first|(exfalso;omega)|(have hx:=of_decide_eq_false Ac;omega),fun hne=>by first|exact absurd (len_nil Cb) hne|(unfold bG;have hx:=of_decide_eq_false cN;omega)⟩
  refine bM [1,2,73,74,75] ?_;refine⟨(i+1),_,cn,aI,w4,(fun j hj=>by rcases Nat.lt_or_ge j i with h|h;exact yn j h;obtain rfl:j=i:=w4;exact hK),rfl⟩):p:=h
theorem z28(h:p:=by
  refine an 69 [4] ?_;refine aK [_] ?_;first|exact gE.cast (gE.mk (g:=cO) (e:=58) (sz:=5) (ls:=[(⟨1,uw n s,⟨#[]⟩⟩:bf)]) (bJ (ls:=[(⟨1,uw n s,⟨#[]⟩⟩:bf)]) (Nat.le_refl _) (show 1<=maxLen by decide))) (by unfold mU sI;rw[if_neg w4])|exact gE.cast (gE.mk (g:=cO) (e:=58) (sz:=5) (ls:=[(⟨kk,uw n s,⟨#[]⟩⟩:bf)]) (bJ (ls:=[(⟨kk,uw n s,⟨#[]⟩⟩:bf)]) (Nat.le_refl _) (show 1<=maxLen by decide))) (by unfold mU sI;rw[if_neg w4,show kk=1 by omega])|exact gE.cast (gE.mk (g:=cO) (e:=58) (sz:=5) (ls:=[(⟨kk,bQ,sJ (j:Int)⟩:bf)]) (bJ (ls:=[(⟨kk,bQ,sJ (j:Int)⟩:bf)]) (Nat.le_refl _) (show 1<=maxLen by decide))) (by unfold mU xC;rw[if_pos w4,hj,show kk=2 by omega])):p:=h
theorem X5(h:p:=by
  have tq:((bw[bw.length-1].k==6)||(((dK (mB key) (bw.take 2))==0)==nt))=true:=(by first|rw[Lw,Bool.true_or]|rw[dW,Bool.or_true])
  refine cL [0,8,9,11,13,122] (TE (gg [bw[(dK ik (bw.take 2)).toNat].v]).1 lo) ?_;refine au ?_ ?_<;>intro fF gM
  ·have yo:compareBytes (gg [bw[(dK ik (bw.take 2)).toNat].v]).1 lo>0:=(by simpa using fF)
   have Dm:((gg [bw[(dK ik (bw.take 2)).toNat].v]).1,hi)=(bif (bw[bw.length-1].k==6)||(((dK (mB key) (bw.take 2))==0)==nt) then oR (gg [bw[(dK ik (bw.take 2)).toNat].v]).1 (lo,hi) else (lo,hi)):=(by rw[tq];show _=oR _ _;unfold oR;rw[if_pos yo])
   refine dw 2 ?_;refine ez call70 (Js (gg [bw[(dK ik (bw.take 2)).toNat].v]).1 w4) ?_;refine aH 2 ?_;refine aP 1 [_,_] sizeOf86 ?_;refine an 155 [0,8,9,11,13] ?_;refine⟨_,aI,((gg [bw[(dK ik (bw.take 2)).toNat].v]).1,hi),Dm,(by first|exact eo|exact e9),eL,rfl⟩
  have yo:¬compareBytes (gg [bw[(dK ik (bw.take 2)).toNat].v]).1 lo>0:=(by simpa using fF)
  have Dm:(lo,hi)=(bif (bw[bw.length-1].k==6)||(((dK (mB key) (bw.take 2))==0)==nt) then oR (gg [bw[(dK ik (bw.take 2)).toNat].v]).1 (lo,hi) else (lo,hi)):=(by rw[tq];show _=oR _ _;unfold oR;rw[if_neg yo])
  refine CD.skip ?_;refine⟨_,aI,(lo,hi),Dm,(by first|exact eo|exact e9),eL,rfl⟩):p:=h
theorem NU(h:p:=by
  refine⟨vi ?_,rfl⟩;first|exact hf.symm|(rw[hf,hx,RD aa xS (by first|assumption|decide)];done)|(rw[hf,dN,if_pos (by simpa using qk)];done)|(rw[hf,dN,if_neg (by simpa using qk)];done)):p:=h
theorem z31(h:p:=by
  have eU:vy fb y=false:=(by unfold vy;simp_all[Va])
  refine CI.skip ?_;refine CI.region NK rfl ?_;refine bN (dS 1) ?_;refine bN (GD 0 [_,_]) ?_;refine ey (cu 0 [_]) [.slice none 0 0,.int .i64 0] [_,_] zeroValue88 runUnderlying83 sizeOf88 (fun HA=>?_);refine fD 0 40 2 1 ?_;refine OD.eG (ls:=pre) (new:=[y]) (Sq:=So) Vb agy aq rfl rfl underlying83 aaN rfl w8 ot ho (cZ (A:=[_,_,_])) ot bq Hf Hf (fun wg GF ajs ajt=>?_);refine OD.perm (dU (S1:=[⟨wg,88,GF*2,flatMap cE (pre++[y])⟩]) (A:=[_,_,_])) ?_;refine aP 1 [_] sizeOf83 ?_;refine OD.wk (Wk.ee (n:=43) (l':=[]) (S':=(⟨jL,88,2,[_,_]⟩::⟨b9,83,1,[_]⟩::⟨b5,86,1,[_]⟩::[⟨wg,88,GF*2,flatMap cE (pre++[y])⟩])) rfl rfl trivial) ?_;refine OD.nil ?_;exact⟨_,Sublist.cons _ (Sublist.refl _),(fun x hx=>by rcases mem_append.1 hx with hx|hx;exact aW x hx;rw[mem_singleton] at hx;subst hx;exact eU),(some ⟨wg,0,none⟩),GF,[⟨wg,88,GF*2,flatMap cE (pre++[y])⟩],(bJ ajs ajt),rfl⟩):p:=h
theorem X6(h:p:=by
  refine aB 1 ?_;refine OD.lY (f:=54) (args:=[_]) (all:=[_,_,_]) (Sf:=[_,_]) (R:=[]) aq rfl rfl ot call54 (Lx r k n d s ts 0 b2 b3 IH gI iO hs hd1 hd w8) rfl ⟨bV,trivial⟩ (Perm.refl _) ?_;rintro _ _ ⟨NV,⟨ap7,ap8,rfl,aju⟩,rfl⟩;refine OD.perm (RE (A:=[_,_])) ?_;refine aH 2 ?_;refine ey (cu 0 [_]) [.int .i64 0,.int .i64 0,.int .i64 0,.string ⟨#[]⟩,.string ⟨#[]⟩] [_,_,_,_,_] zeroValue58 runUnderlying42 sizeOf58 (fun AP=>?_);refine fD 0 58 5 1 ?_;refine OD.eG (ls:=(gX r ts n s 0)) (new:=[(⟨kk,bQ,⟨#[]⟩⟩:bf)]) (Sq:=NV) nB K1 aq rfl rfl underlying42 II rfl w8 ot aju (cZ (A:=[_,_])) ot bq AA AA (fun tr sO Cw Cx=>?_);refine OD.perm (dU (S1:=[⟨tr,58,sO*5,flatMap cO ((gX r ts n s 0)++[(⟨kk,bQ,⟨#[]⟩⟩:bf)])⟩]) (A:=[_,_])) ?_;refine an 69 [4] ?_;refine aK [⟨tr,58,sO*5,flatMap cO ((gX r ts n s 0)++[(⟨kk,bQ,⟨#[]⟩⟩:bf)])⟩] ?_;exact gE.cast (gE.mk (bJ Cw Cx)) (by rw[wS,kW,if_neg w4,if_neg w4,if_pos w4];rfl)):p:=h
theorem HB(h:p:=by
  refine aK [] ?_;refine⟨?_,rfl⟩;unfold jE;first|(rw[if_pos bz];first|done|rfl)|(rw[if_neg bz,if_pos cM,hj];rcases j with _|_|j<;>first|rfl|omega)|(rw[if_neg bz,if_neg cr,if_pos cJ];first|done|rfl)|(rw[if_neg bz,if_neg cr,if_neg cJ,if_pos w4,show -v.n=0-v.n by omega];first|done|rfl)|(rw[if_neg bz,if_neg cr,if_neg cJ,if_neg w4];first|done|rfl)):p:=h
theorem X7(h:p:=by
  refine at_ rfl fN ?_;refine dm 14 rfl (dL 1 (h:=NC)) ?_;refine AD.one (i:=15) aC ?_;refine bC.storeAt (k:=0) (cs':=((Mv P B Q x (t+1)).set (a+t+1) ((Mv P B Q x (t+1))[a+t])).flatMap cI) rfl aq rfl rfl ot rfl rfl ot rfl rfl sizeOf3 rfl Hq (by rw[Nat.zero_add];exact nX eC _ _ w4) iL ?_;refine fm ?_;refine aH 1 ?_;refine OD.storeAt (k:=0) (cs':=(Mv P B Q x (t)).flatMap cI) aq rfl rfl ot rfl rfl ot rfl rfl sizeOf3 rfl Hl (by rw[Nat.zero_add];exact(nX eC ((Mv P B Q x (t+1)).set (a+t+1) ((Mv P B Q x (t+1))[a+t])) ((Mv P B Q x (t+1))[a+t+1]) uE).trans (congrArg (flatMap cI) (agz NW hP w4 w4))) ?_;refine an 220 [0,14,17] ?_;refine gl [0,14,17] ?_;refine aR 1 ?_ (h:=by exact(dR rfl ot bV (iI (r:=((a+t:Nat):Int)) NB)));refine bA ?_;refine⟨t,_,cn,aI,w4,w4,rfl⟩):p:=h
theorem X8(h:p:=by
  refine at_ rfl fN ?_;refine dm 14 rfl (dL 1 (h:=NF)) ?_;refine AD.one (i:=15) aC ?_;refine bC.storeAt (k:=0) (cs':=((Mv P B Q x (t)).set (a+t) ((Mv P B Q x (t))[a+t+1])).flatMap cI) rfl aq rfl rfl ot rfl rfl ot rfl rfl sizeOf3 rfl Hq (by rw[Nat.zero_add];exact nX eC _ _ w4) iL ?_;refine fm ?_;refine aH 1 ?_;refine OD.storeAt (k:=0) (cs':=(Mv P B Q x (t+1)).flatMap cI) aq rfl rfl ot rfl rfl ot rfl rfl sizeOf3 rfl Hl (by rw[Nat.zero_add];exact(nX eC ((Mv P B Q x (t)).set (a+t) ((Mv P B Q x (t))[a+t+1])) ((Mv P B Q x (t))[a+t]) uE).trans (congrArg (flatMap cI) (agA NW hP w4 w4))) ?_;refine an 220 [0,10,13] ?_;refine gl [0,10,13] ?_;refine aR 1 ?_ (h:=by exact(dR rfl ot bV (kN (r:=((a+(t+1):Nat):Int)) (by rw[show(((a+t:Nat):Int)+1)=((a+(t+1):Nat):Int) by omega];exact wrap_i64 w4 w4))));refine bA ?_;refine⟨(t+1),_,cn,aI,w4,rfl⟩):p:=h
theorem X9(h:p:=by
  refine at_ rfl fN ?_;refine dm 14 rfl (dL 1 (h:=NI)) ?_;refine AD.one (i:=15) aC ?_;refine bC.storeAt (k:=0) (cs':=(lO.set j (lO[j-1]'mj)).flatMap cI) rfl aq rfl rfl ot rfl rfl ot rfl rfl sizeOf3 rfl Hq (by rw[Nat.zero_add];exact nX eC _ _ pF) iL ?_;refine fm ?_;refine aH 1 ?_;refine OD.storeAt (k:=0) (cs':=((lO.set j (lO[j-1]'mj)).set (j-1) (lO[j]'pF)).flatMap cI) aq rfl rfl ot rfl rfl ot rfl rfl sizeOf3 rfl Hl (by rw[Nat.zero_add];exact nX eC _ _ (by rw[length_set];exact mj)) ?_;refine an 53 [0,1,2,3,8,9] ?_;refine gl [0,1,2,3,8,9] ?_;refine aR 1 ?_ (h:=by exact(dR rfl ot bV (iI (r:=((j-1:Nat):Int)) ND)));refine bA ?_;refine⟨((j-1),((lO.set j (lO[j-1]'mj)).set (j-1) (lO[j]'pF))),_,cn,aI,(abA hj hja pF mj (Fz ahU)),(by simpa using Ad),rfl⟩):p:=h
theorem z37(h:p:=by
  refine bZ 71 (fun ajv ahV=>?_) (fun ajv ahV=>?_)
  ·refine bu [0,2,4,6,8,79] ?_;refine au ?_ ?_<;>intro bL cJ
   ·have sP:(bw.length≠3\/(nt=true/\bw[bw.length-1].k≠7)\/(bw[bw.length-1].k≠6/\bw[bw.length-1].k≠7)):=(by first|omega|(simp_all;omega)|simp_all)
    have nf:nE key bw nt (lo,hi)=(lo,hi):=(by unfold nE;rw[vo vI,if_pos sP])
    rw[nf] at aV;refine aK [⟨b0,_,_,_⟩] ?_;refine⟨rfl,?_⟩;first|rw[th]|rw[aV]
   have sP:¬(bw.length≠3\/(nt=true/\bw[bw.length-1].k≠7)\/(bw[bw.length-1].k≠6/\bw[bw.length-1].k≠7)):=(by first|omega|(simp_all;omega)|simp_all)
   refine CD.skip ?_;refine⟨_,aI,sP,rfl⟩
  refine bu [0,2,4,6,8,79] ?_;refine gm ?_;have sP:¬(bw.length≠3\/(nt=true/\bw[bw.length-1].k≠7)\/(bw[bw.length-1].k≠6/\bw[bw.length-1].k≠7)):=(by first|omega|(simp_all;omega)|simp_all)
  refine CD.skip ?_;refine⟨_,aI,sP,rfl⟩):p:=h
theorem Ya(h:p:=by
  have sP:(bw.length≠3\/(nt=true/\bw[bw.length-1].k≠7)\/(bw[bw.length-1].k≠6/\bw[bw.length-1].k≠7)):=(by first|omega|(simp_all;omega)|simp_all)
  have nf:nE key bw nt (lo,hi)=(lo,hi):=(by unfold nE;rw[vo vI,if_pos sP])
  rw[nf] at aV;refine aK [⟨b0,_,_,_⟩] ?_;refine⟨rfl,?_⟩;first|rw[th]|rw[aV]):p:=h
theorem Yb(h:p:=by
  refine af [0] ?_;refine af [3] ?_;refine af [3,4] ?_;refine au ?_ ?_<;>intro aJ bz
  ·refine eO ?_;refine af [2] ?_;refine aK [] ?_;refine⟨vi ?_,rfl⟩;unfold bU;simp_all
  refine bM [3,4] ?_;refine au ?_ ?_<;>intro aX cr
  ·refine af [2] ?_;refine aK [] ?_;refine⟨vi ?_,rfl⟩;unfold bU;simp_all
  refine af [3,7] ?_;refine au ?_ ?_<;>intro bL cJ
  ·refine eO ?_;refine af [2] ?_;refine aK [] ?_;refine⟨vi ?_,rfl⟩;unfold bU;simp_all
  refine bM [7] ?_;refine au ?_ ?_<;>intro cN en
  ·refine af [2] ?_;refine aK [] ?_;refine⟨vi ?_,rfl⟩;unfold bU;simp_all
  refine af [2] ?_;refine aK [] ?_;refine⟨vi ?_,rfl⟩;unfold bU;simp_all
  ):p:=h
theorem z40(h:p:=by
  have oQ:¬vw p i:=fun hk=>by obtain⟨k1,k2,k3⟩:=hk aa;unfold bG at k2 k3;first|(rw[k1] at xR;cases xR;done)|(have:=k2 w4;omega)|(have:=k3 (K0 Cb);have hx:=of_decide_eq_true cN;omega)
  refine af [4] ?_;refine aK [] ?_;refine⟨vb (E7 fun hp=>?_),rfl⟩;exact oQ (TI hp i)):p:=h
theorem NX(h:p:=by
  refine aH 1 ?_;first|refine OD.cells (k:=0) (cs':=[.list 1 [] 0,_]) rfl ⟨fP,eM,trivial⟩ rfl ?_|skip
  first|refine OD.cells (k:=1) (cs':=[.list 1 [] 0,_]) rfl ⟨fP,eM,trivial⟩ rfl ?_|skip
  first|refine OD.cells (k:=1) (cs':=[.list 5 [] 0]) rfl ⟨fP,trivial⟩ rfl ?_|skip
  first|refine OD.cells (k:=2) (cs':=[.list 5 [] 0]) rfl ⟨fP,trivial⟩ rfl ?_|skip
  refine an 46 [4,5,6] ?_;refine aK [] ?_;rw[aV];exact⟨rfl,rfl⟩):p:=h
theorem Yc(h:p:=by
  refine⟨vi ?_,rfl⟩;try simp only[vh] at *
  unfold de;simp_all;try omega):p:=h
theorem pG(h:p:=by
  refine aK [] ?_;rw[aV];exact⟨rfl,rfl⟩):p:=h
theorem Yd(h:p:=by
  refine aK [⟨b0,_,_,_⟩] ?_;refine⟨rfl,?_⟩;first|rw[th]|rw[aV]):p:=h
theorem Ye(h:p:=by
  refine at_ rfl fN ?_;refine dm 20 rfl (dL 1) ?_;refine AD.one (i:=21) aC ?_;refine bC.storeAt (k:=0) (cs':=((kz l la lb i).set (la+i) ((kz l la lb i)[lb+i]'hb)).flatMap cI) rfl aq rfl rfl ot rfl rfl ot rfl rfl sizeOf3 rfl Hq (by rw[Nat.zero_add];exact nX eC _ _ ha) iL ?_;refine fm ?_;refine aH 1 ?_;refine OD.storeAt (k:=0) (cs':=(kz l la lb (i+1)).flatMap cI) aq rfl rfl ot rfl rfl ot rfl rfl sizeOf3 rfl Hl (by rw[Nat.zero_add];exact(nX eC ((kz l la lb i).set (la+i) ((kz l la lb i)[lb+i]'hb)) ((kz l la lb i)[la+i]'ha) (by rw[length_set];exact hb)).trans (by rw[kz,sw,mV ha,mV hb])) ?_;refine an 38 [0,1,2,3,10] ?_;refine bM [0,1,2,3,10] ?_;refine⟨(i+1),_,cn,aI,w4,rfl⟩):p:=h
theorem z46(h:p:=by
  refine af [4] ?_;refine aK [] ?_;first|exact⟨rfl,rfl⟩|(refine⟨vi ?_,rfl⟩;unfold p9;simp_all;done)|(refine⟨vi ?_,rfl⟩;unfold p9;split<;>(try split)<;>simp_all<;>omega)):p:=h
theorem HC(h:p:=by
  refine aK [] ?_;rw[dN];exact⟨rfl,rfl⟩):p:=h
theorem yp(h:p:=by
  refine an 90 [4] ?_;refine aK [] ?_;refine⟨vb ?_,rfl⟩;unfold ei ja;simp_all;all_goals (try (intros;omega))):p:=h
theorem z49(h:p:=by
  have uK:p.1∈ts:=(by rw[<-hr.keys];exact mem_map_of_mem fx)
  refine⟨uK,?_⟩;rw[hr.at uK];have ek:∀(j:Nat) (p':Oper),k<=j->ops[j]?=some p'->p'.dst≠some p.1:=fun j p' hj HD jq=>by
   obtain⟨e1,tq,iM,j7⟩:=FB (by simpa using AR) HD jq uK;have:=(xq hp Ae).1 e1 tq iM;omega
  have h5:=k0.later (q:=p.1) (fun p' AS=>by
   rw[<-jM] at AS;obtain⟨j,hj,rfl⟩:=mem_iff_getElem.1 AS;refine ek (k+1+j) _ w4 ?_;rw[<-Array.getElem?_toList,<-getElem?_drop,getElem?_eq_getElem hj])
  rw[h5,ga,if_neg (fun e1:t=p.1=>ek k o (Nat.le_refl _) Ae (by rw[<-e1];exact hd))]):p:=h
theorem NY(h:p:=by
  refine⟨vb ?_,rfl⟩;unfold ei ja;simp_all;all_goals (try (intros;omega))):p:=h
theorem z51(h:p:=by
  refine aK [] ?_;rw[aV];exact⟨rfl,fun h=>by dsimp only at h;omega⟩):p:=h
theorem nP(h:p:=by
  refine aK [] ?_;exact⟨rfl,rfl⟩
  ):p:=h
theorem z53(h:p:=by
  refine an 69 [4] ?_;refine aK [_] ?_;first|exact gE.cast (gE.mk (g:=cO) (e:=58) (sz:=5) (ls:=[(⟨kk,uw n s,⟨#[]⟩⟩:bf)]) (bJ (ls:=[(⟨kk,uw n s,⟨#[]⟩⟩:bf)]) (Nat.le_refl _) (show 1<=maxLen by decide))) (by rw[wS,kW,if_pos w4];unfold sI;rw[show kk=1 by omega])|exact gE.cast (gE.mk (g:=cO) (e:=58) (sz:=5) (ls:=[(⟨kk,bQ,sJ (j:Int)⟩:bf)]) (bJ (ls:=[(⟨kk,bQ,sJ (j:Int)⟩:bf)]) (Nat.le_refl _) (show 1<=maxLen by decide))) (by rw[wS,kW,if_neg w4,if_pos w4];unfold xC;rw[hj,show kk=2 by omega])):p:=h
theorem HE(h:p:=by
  refine bu [2] ?_;refine eZ ?_;refine⟨vb ?_,rfl⟩;rw[Bool.eq_iff_iff];simp[xm];first|done|omega):p:=h
theorem Yf(h:p:=by
  refine OD.perm (dU (A:=[])) ?_;refine an 29 [3,8,9,10] ?_;refine bM [3,8,9,10] ?_;refine⟨((i+1),Wt,Wu,Yg),_,cn,(aI (h:=by repeat (first|exact trivial|refine⟨(by (repeat (first|exact fK|(apply gb;focus (first|rfl|(simp;done)|(congr 2;omega)|(apply eP;first|exact Ju aa w4|exact IZ aa w4)|(apply eP;rfl)|(apply eP;simp;done)))|(apply fO;focus rfl)));done),?_⟩))),w4,(bn.cast Wv (by first|exact Ju aa w4|exact IZ aa w4)),rfl⟩):p:=h
theorem NZ(h:p:=by
  refine⟨vs ?_,rfl⟩;have wi:k=s.size\/6<=k:=(by omega)
  have Me:min k s.size=k:=Nat.min_eq_left hk;simp only[length_map,length_take,lF,Me] at *;unfold vz zI;first|(rw[if_pos w4];done)|(rw[if_neg w4,RF hk wi h6])):p:=h
theorem Yh(h:p:=by
  have hF:¬((bE t.ay s.set)=0/\(fA t.ay (rowAt t ((ax t s.aj).1[k]'aa)) s.bF).1.k=0):=(by first|exact fun h=>(show ¬(fA t.ay (rowAt t ((ax t s.aj).1[k]'aa)) s.bF).1.k=0 from by simpa using iw) h.2|exact fun h=>absurd h.1 (by simpa using Ac))
  have oB:(iC t (bE t.ay s.set) s.bF [] (ax t s.aj).1)=iC t (bE t.ay s.set) s.bF (acc++[(fA t.ay (rowAt t ((ax t s.aj).1[k]'aa)) s.bF).1]) ((ax t s.aj).1.drop (k+1)):=(by rw[AT,jM,iC,if_neg hE,if_neg hF])
  refine CD.skip ?_;refine⟨_,aI,oB,rfl⟩):p:=h
theorem HF(h:p:=by
  skip;obtain⟨hz,_⟩:=yq aJ;obtain rfl:=length_eq_zero_iff.1 hz;refine af [2] ?_;refine aK [] ?_;exact⟨none,0,rfl,.inl ⟨rfl,rfl,rfl,rfl,rfl⟩⟩):p:=h
theorem z59(h:p:=by
  refine aP 0 [_,_,_] sizeOf56 ?_;refine an 35 [4,5] ?_;refine aK [] ?_;refine⟨?_,rfl⟩;unfold ux;simp_all[bQ]):p:=h
theorem Yi(h:p:=by
  obtain⟨d1,d2⟩:=Vc g h;have fX:=h.gH g;have hr:(dg t.ix).Pairwise fun x y=>bG x.1 y.1:=y7 g.ix.val;refine By (y7 d1.val) (hr.filter _) fun x=>?_;refine(d2 x).trans ?_;rw[mem_filter];refine⟨fun ⟨h1,h2⟩=>⟨h1,decide_eq_true fun e=>h2 ?_⟩,fun ⟨h1,h2⟩=>⟨h1,fun e=>of_decide_eq_true h2 ?_⟩⟩
  ·obtain⟨x0,x1,_,x3⟩:=g.gH x h1;rw[x3,<-e,iS x1]
  have:=BN g.ix h1 fX e;rw[this]):p:=h
theorem Yj(h:p:=by
  have hnd:(fC was now now.length).Nodup:=by
   unfold fC;rw[Nodup,pairwise_map];refine((nodup_range).filter _).imp fun h e=>h (Int.ofNat.inj e)
  refine hnd.length_le_of_subset fun x hx=>?_;unfold fC at hx;obtain⟨j,hj,rfl⟩:=mem_map.1 hx;obtain⟨h1,h2⟩:=mem_filter.1 hj;have oC:=mem_range.1 h1;refine Classical.byContradiction fun hn=>?_;have:=h j hn;rw[nW this] at h2;simp at h2;omega):p:=h
theorem HG(h:p:=by
  refine aK [] ?_;rw[dN];exact⟨rfl,rfl⟩
  ):p:=h
theorem N0(h:p:=by
  refine af [2] ?_;refine aK [] ?_;refine⟨vi ?_,rfl⟩;try simp only[P7] at *
  simp only[cW];first|(rw[if_pos w4];done)|(rw[if_neg w4];cases h1:oK s<;>cases h2:vp.any (ja s)<;>simp_all)):p:=h
theorem HH(h:p:=by
  refine aK _ ?_;first|exact⟨rfl,_,Ly,rfl⟩|exact⟨rfl,_,FC qK oY Yk,rfl⟩|exact⟨rfl,_,FC qK oY (Qy qK oY w4),rfl⟩):p:=h
theorem Yl(h:p:=by
  have h:∀n,n<=was.length->fC was (was++[row]) n=[]
   := fun n=>by
   induction n with
   | zero=>intro _;rfl
   | succ n ih =>
    intro hn;rw[tT,ih w4,if_neg]
    ·rfl
    rw[nW (by rw[getD_eq_getElem?_getD,getD_eq_getElem?_getD,getElem?_append_left w4])];simp;omega
  rw[length_append,length_singleton,tT,h _ (Nat.le_refl _),if_pos bq];rfl):p:=h
theorem yt(h:p:=by
  refine af [2] ?_;refine eZ ?_;rw[aV];exact⟨rfl,rfl⟩):p:=h
theorem Ym(h:p:=by
  have hC:0<=p.kids[i]/\(p.leaf=false->p.kids[i]<many):=⟨by have hx:=of_decide_eq_false Lz;omega,fun hl=>by first|(rw[hl] at Gc;cases Gc;done)|(have hx:=of_decide_eq_false fF;omega)⟩
  refine bM [1,2,113,114,115] ?_;refine⟨(i+1),_,cn,aI,w4,(fun j hj hl=>by rcases Nat.lt_or_ge j i with h|h;exact lN j h hl;obtain rfl:j=i:=w4;exact hC),rfl⟩):p:=h
theorem Yn(h:p:=by
  obtain⟨a,b⟩:=x;obtain⟨c,d⟩:=y;constructor
  ·intro h;rw[Bool.and_eq_true] at h;obtain⟨h1,h2⟩:=h;have e1:a=c:=qC.1 h1;have e2:b=d:=beq_iff_eq.1 h2;rw[e1,e2]
  intro h;injection h with h1 h2
  subst h1;subst h2;rw[Bool.and_eq_true];exact⟨qC.2 rfl,beq_iff_eq.2 rfl⟩
  ):p:=h
theorem Yo(h:p:=by
  have dN:j=a\/Rc cF Lt (lO[j-1]'mj) (lO[j]'pF):=(by first|exact .inr (FX ha (aeX hj (by have q:=of_decide_eq_true qL;omega) pF mj hq) w4)|exact .inl (by have q:=of_decide_eq_false qL;omega))
  refine bM [0,1,2,3,8] ?_;refine⟨((i+1),lO),_,cn,aI,(fun _=>ade ht hj w4 w4 dN),w4,w4,w4,Ad,rfl⟩):p:=h
theorem z70(h:p:=by
  refine aP 0 [_,_,_] sizeOf153 ?_;refine an 14 [2] ?_;refine aK [] ?_;refine⟨?_,rfl⟩;unfold Af;first|(rw[if_neg lA,if_neg j8,show((j:Nat):Int).toNat=j from rfl,getD_eq_getElem?_getD,getElem?_eq_getElem hj];rfl)|(rw[if_pos xL];rfl)|(rw[if_neg xL,if_pos v8];rfl)):p:=h
theorem uL(h:p:=by
  refine aK [] ?_;rw[aV];exact⟨rfl,rfl⟩
  ):p:=h
theorem z72(h:p:=by
  have oQ:vs[i].k≠l[i].k/\(i=0\/vs[i].k≠0):=(by first|(simp at *;omega)|(constructor<;>simp_all<;>omega))
  have hf:l8 i l[i] vs[i]=4:=(by unfold l8;rw[if_neg hz,if_pos oQ])
  have aV:dY l vs=4:=(by rw[hinv,RG Mf aa (by rw[hf];decide),hf])
  refine af [4] ?_;refine eZ ?_;rw[aV];exact⟨rfl,rfl⟩):p:=h
theorem Yp(h:p:=by
  have oQ:¬(0<=p.kids[i]/\(p.leaf=false->p.kids[i]<many)):=fun hk=>by obtain⟨k1,k2⟩:=hk;first|(have hx:=of_decide_eq_true Lz;omega)|(have:=k2 (by simpa using Gc);have hx:=of_decide_eq_true fF;omega)
  refine af [4] ?_;refine eZ ?_;refine⟨vb (E7 fun hp=>?_),rfl⟩;exact oQ (aeY hp aa)):p:=h
theorem Yq(h:p:=by
  refine an 70 [1,2,11,35,36,37] ?_;refine bM [1,2,11,35,36,37] ?_;refine⟨((k+1),(acc++[(L[k]'aa).2]),(some ⟨qQ,0,none⟩),rJ,[⟨qQ,3,rJ*1,flatMap Tw.cI ((acc)++[(L[k]'aa).2])⟩]),_,cn,aI,w4,Hr,oB,(bn.cast (bJ GG GH) jZ),rfl⟩):p:=h
theorem z75(h:p:=by
  unfold eJ;by_cases h:cap=i+1
  ·have e:q.length=i+1:=(by omega)
   have e2:q.drop (i+1)=[]:=drop_of_length_le w4;rw[if_pos h,show q.length-(i+1)=0 from by omega,e2];simp
  rw[if_neg h,Nat.zero_add,vk hg,take_of_length_le];rw[cm hg,length_drop];exact Nat.le_refl _):p:=h
theorem z76(h:p:=by
  have oO:¬(vs[i].k≠l[i].k/\(i=0\/vs[i].k≠0)):=(by first|(simp_all;done)|omega|(simp at *;omega))
  have hf:l8 i l[i] vs[i]=0:=(by unfold l8;rw[if_neg hz,if_neg oO])
  have jC:=hinv.trans (abB Mf aa hf);refine bM [0,19,20,21] ?_;refine⟨(i+1),_,cn,aI,w4,jC,rfl⟩):p:=h
theorem Yr(h:p:=by
  refine bM [1,3,33,34,35] ?_;refine⟨(i+1),_,cn,(aI (h:=by repeat (first|exact trivial|refine⟨(by (repeat (first|exact fK|(apply gb;focus (first|rfl|(rw[Fa,if_neg Ag];rfl)|(rw[Fa,if_pos Ag];rfl)|(simp;done)|(congr 2;omega)))|(apply fO;focus rfl)));done),?_⟩))),w4,rfl⟩):p:=h
theorem N1(h:p:=by
  refine aP 0 [_,_,_] sizeOf56 ?_;refine an 42 [8,9] ?_;refine aK [⟨br,40,1,[ap 3 cV row]⟩,⟨bc,39,1,[ap 2 cC l]⟩] ?_;rw[aV];exact⟨rfl,rfl⟩):p:=h
theorem Yt(h:p:=by
  unfold fC;rw[range_succ,filter_append,map_append];congr 1;by_cases h:((!(gk (now.getD n []) (was.getD n [])))||decide (was.length<=n))=true
  ·rw[if_pos h];simp only[filter_cons,if_pos h,filter_nil];rfl
  rw[if_neg h];simp only[filter_cons,if_neg h,filter_nil];rfl):p:=h
theorem z80(h:p:=by
  refine OD.perm (dU (A:=[])) ?_;refine an 8 [2] ?_;refine aK S7 ?_;exact⟨_,_,rfl,ql⟩
  ):p:=h
theorem Yu(h:p:=by
  refine fm ?_;refine OD.iD iN rfl rfl rfl call28 (eY) ⟨ot,ot,trivial⟩ ?_;refine an 31 [1,10,11,12,29] ?_;refine au ?_ ?_<;>intro bL cJ
  ·exact absurd bL (by (simp at bL;omega))
  refine bM [1,10,11,12] ?_;refine⟨(i+1),_,cn,aI,w4,rfl⟩):p:=h
theorem Yv(h:p:=by
  have h':i<(dg t.ix).length:=(by unfold jF at h;rwa [length_map] at h)
  obtain⟨h0,h1,h2,h3⟩:=g.gH _ (getElem_mem h');exact⟨h',by show((dg t.ix).map fun x=>rowAt t x.2)[i]=_;exact getElem_map _,⟨h0,h1,h2⟩,by rw[iS h1];exact h3⟩):p:=h
theorem Yw(h:p:=by
  match l,h,h1 with
  | [],_,h1=>exact absurd h1 (Nat.not_lt_zero _)
  | [_],_,h1=>exact absurd h1 (by show ¬1<1;decide)
  | x::y::r,h,_ =>
   rw[map_cons,map_cons] at h;exact⟨by injection h,by injection h with _ h;injection h⟩):p:=h
theorem N2(h:p:=by refine⟨(i+1),_,cn,aI,w4,rfl⟩):p:=h
theorem z85(h:p:=by
  skip;refine bu [1,33] ?_;refine eO ?_;refine af [2] ?_;refine eZ ?_;exact⟨vi (PV w4).symm,rfl⟩):p:=h
theorem Yx(h:p:=by
  show(t.rows.set i.toNat ((rowAt t i).set c v)).getD j.toNat []=_;rw[getD_eq_getElem?_getD];by_cases h:j=i
  ·subst h;rw[if_pos rfl,getElem?_set_self hl];rfl
  rw[if_neg h,getElem?_set_ne w4,<-getD_eq_getElem?_getD];rfl):p:=h
theorem z87(h:p:=by
  refine aP 0 [_,_,_] sizeOf56 ?_;refine an 29 [2] ?_;refine aK [] ?_;refine⟨?_,rfl⟩;unfold pV bQ;simp_all):p:=h
theorem Yy(h:p:=by
  have hC:¬((eu t.ay s.bF).1≠(t.ay.getD (bE t.ay s.set).toNat ⟨⟨#[]⟩,0⟩).k/\(eu t.ay s.bF).1≠0):=(by rw[iW];first|exact fun h=>h.2 (by simpa using bL)|exact fun h=>h.1 zJ)
  refine CD.skip ?_;refine⟨_,aI,hC,rfl⟩):p:=h
theorem Yz(h:p:=by
  have oX:¬(0<=s.iE/\s.iE<lz.length):=(by first|exact fun h=>mF h.2|(intro h;omega))
  refine CD.skip ?_;refine⟨_,aI,lz,(by unfold xu Ah;rw[<-nl,Int.toNat_natCast,<-hM,<-Ww,if_neg oX]),Wx,w4,rfl⟩):p:=h
theorem N3(h:p:=by
  refine an 135 [4,5] ?_;refine aK [] ?_;rw[aV];exact⟨[],none,0,[],rfl,iR,(fun o h=>by cases h),rfl,rfl⟩):p:=h
theorem z91(h:p:=by
  have ahW:¬(f.length<=100/\fb.length<=100):=(by simp_all;omega)
  refine af [6,7] ?_;refine CD.wk (Wk.sA (t:=6) (sz:=2) lk) ?_;refine N4 ?_;exact⟨by unfold xD;rw[if_pos hz,if_neg ahW];rfl,rfl⟩):p:=h
theorem YA(h:p:=by
  unfold cC;refine bS ?_;refine OD.box (ds:=[_,_]) aq rfl rfl ot rfl rfl (fun b2=>?_);refine an 8 [1,2] ?_;refine af [3] ?_;refine aK [⟨b,9,1,[bg nm]⟩] ?_;exact⟨rfl,rfl⟩
  ):p:=h
theorem z93(h:p:=by
  have jm:¬((jx a b i).k≠2/\(jx a b i).k≠0):=(by simp_all)
  refine bM [0,4,5,6,73,74] ?_;refine⟨(i+1),_,cn,aI,w4,(Jv (p:=fun v=>¬(v.k≠2/\v.k≠0)) ek jm),rfl⟩):p:=h
theorem YB(h:p:=by
  have jm:¬((jx a b i).k≠1/\(jx a b i).k≠0):=(by simp_all)
  refine bM [2,3,4,6,14,15] ?_;refine⟨(i+1),_,cn,aI,w4,(Jv (p:=fun v=>¬(v.k≠1/\v.k≠0)) ek jm),rfl⟩):p:=h
theorem YC(h:p:=by
  unfold jl cmpL ic ic ic ic;rcases y5 a.k b.k with ⟨h1,h2⟩|⟨h1,h2⟩|⟨h1,h2⟩<;>rcases y5 a.n b.n with ⟨k1,k2⟩|⟨k1,k2⟩|⟨k1,k2⟩<;>simp only[h1,k1]<;>(repeat' split)<;>omega):p:=h
theorem YD(h:p:=by
  refine bA ?_;refine cz [6,7] ?_;refine aR 6 ?_ (h:=by exact(dR rfl ot ot (Fb underlying4)));refine bA ?_;refine aK [] ?_;refine⟨?_,rfl⟩;unfold pW;simp_all):p:=h
theorem YE(h:p:=by
  have ahX:¬((jx a b i).k=1/\(jx a b i).n=d):=(by simp_all)
  refine bM [2,3,4,6,30,31] ?_;refine⟨(i+1),_,cn,aI,w4,(Jv (p:=fun v=>¬(v.k=1/\v.n=d)) LA ahX),rfl⟩):p:=h
theorem YF(h:p:=by
  unfold gg;rw[if_neg bq,FD (fun x hx=>by rw[mem_singleton] at hx;rw[hx];exact h),if_neg bq,if_neg];show ¬(fW [v]).length>100;unfold fW Cd.vE sQ;simp[hk,ni]):p:=h
theorem YG(h:p:=by refine⟨_,(aI (h:=by repeat (first|exact trivial|refine⟨(by (repeat (first|exact fK|(apply gb;focus (first|rfl|(rw[dx];done)|(simp;done)))|(apply fO;focus rfl)));done),?_⟩))),rfl⟩):p:=h
theorem Wy(h:p:=by refine⟨_,(aI (h:=by repeat (first|exact trivial|refine⟨(by (repeat (first|exact fK|(apply gb;focus (first|rfl|(rw[iW];done)|(simp;done)))|(apply fO;focus rfl)));done),?_⟩))),rfl⟩):p:=h
theorem Wz(h:p:=by
  skip;obtain⟨hz,_⟩:=yq aJ;obtain rfl:=length_eq_zero_iff.1 hz;refine af [2] ?_;refine CD.wk (Wk.sA (t:=2) (sz:=1) lk) ?_;refine aK [] ?_;exact⟨rfl,rfl⟩):p:=h
theorem WA(h:p:=by
  refine af [4] ?_;refine aK [] ?_;first|exact⟨vi (Fc hn).symm,rfl⟩|exact⟨vi (ER hz v8).symm,rfl⟩|exact⟨vi (J8 hz v8).symm,rfl⟩):p:=h
theorem WB(h:p:=by
  rw[<-jM] at fx;obtain⟨j,hj,rfl⟩:=mem_iff_getElem.1 fx;refine lB (k+1+j) _ w4 ?_;rw[<-Array.getElem?_toList,<-getElem?_drop,getElem?_eq_getElem hj]):p:=h
theorem WD(h:p:=by
  refine af [4] ?_;refine eZ ?_;refine⟨vi ?_,rfl⟩;unfold aQ;first|(rw[Cy] at YH;cases fT:p.leaf<;>simp_all;done)|(simp_all;done)|(simp_all;omega)):p:=h
theorem z105(h:p:=by
  refine af [2,3] ?_;refine aK [] ?_;first|(rw[aV];exact⟨none,0,rfl,iR⟩)):p:=h
theorem Cz(h:p:=by refine⟨_,aI,_,(by unfold zeroV;simp_all),rfl⟩):p:=h
theorem z107(h:p:=by
  refine an 33 [0] ?_;refine af [6] ?_;refine aK [_] ?_;exact⟨rfl,rfl⟩
  ):p:=h
theorem Mg(h:p:=by
  refine af [2] ?_;refine aK [] ?_;exact⟨by first|rw[aV]|rw[aV];rfl,rfl⟩):p:=h
theorem z109(h:p:=by
  by_cases hj:j<now.rows.length
  ·exact hb j hj
  rw[getD_eq_getElem?_getD,getD_eq_getElem?_getD,getElem?_eq_none w4,getElem?_eq_none w4]):p:=h
theorem Mh(h:p:=by
  refine af [4] ?_;refine aK [] ?_;refine⟨?_,rfl⟩;first|rfl|(simp;done)):p:=h
theorem WE(h:p:=by
  have g6:=po.leaf;have g7:=fun h=>(po.node h).1;cases fT:(t.ag[i]'aa).leaf with
  | true=>have:=g6 fT;omega
  | false=>have:=g7 fT;omega):p:=h
theorem WG(h:p:=by
  show(t.rows.set i.toNat []).getD j.toNat []=t.rows.getD j.toNat [];rw[getD_eq_getElem?_getD,getD_eq_getElem?_getD,getElem?_set_ne w4]):p:=h
theorem WH(h:p:=by
  obtain⟨h',e,fX,_⟩:=TJ g h;obtain⟨v,r,h1,h2,h3,h4,h5,h6,_⟩:=Qz g fX;exact⟨v,r,e.trans h1,h2,h3,h4,h5,h6⟩):p:=h
theorem WI(h:p:=by
  rw[map_set,hn];have:l[i].nm=(l.map az.nm)[i]'(by rw[length_map];exact hi):=(by rw[getElem_map])
  rw[this,set_getElem_self]):p:=h
theorem CA(h:p:=by refine⟨_,aI,_,iF,rfl⟩):p:=h
theorem z116(h:p:=by
  refine aK [] ?_;refine⟨?_,rfl⟩;first|rfl|(simp;done)
  ):p:=h
theorem z117(h:p:=by refine⟨((((i+j)/2)+1),j),_,cn,aI,w4,w4,w4,(.inr ⟨by omega,by omega,by exact qe⟩),eD,rfl⟩):p:=h
theorem WJ(h:p:=by
  obtain⟨t',h3,h4⟩:=(xq hp HD).2;rw[jq] at h3;obtain rfl:=Option.some.inj h3;exact h4 k o hj Ae hd):p:=h
theorem z119(h:p:=by
  by_cases hn:(t.rows[i]).length=0
  ·omega
  have:=oN (g.row i h (fun e=>hn (by rw[e];rfl))).1;omega):p:=h
theorem WK(h:p:=by
  unfold mC;rw[mk_data,getD_eq_getElem?_getD,getElem?_eq_getElem w4];exact getElem_mem _):p:=h
theorem WL(h:p:=by
  rw[qa] at pH;rcases mem_cons.1 pH with rfl|pH
  ·exact .inl (tV _ _)
  exact m.Vd x pH):p:=h
theorem WM(h:p:=by
  have dN:dY l=1:=if_pos w4;refine af [2] ?_;refine eZ ?_;rw[dN];exact⟨rfl,rfl⟩):p:=h
theorem WN(h:p:=by
  refine aK [⟨br,40,1,[ap 3 cV row]⟩,⟨bc,39,1,[ap 2 cC l]⟩] ?_;rw[aV];exact⟨rfl,rfl⟩
  ):p:=h
theorem z124(h:p:=by refine⟨(i,((i+j)/2)),_,cn,aI,w4,w4,w4,cM,(.inr ⟨by omega,by omega,AU⟩),rfl⟩):p:=h
theorem WO(h:p:=by
  unfold oM;rw[h,if_neg w4,Int.toNat_natCast,getD_eq_getElem?_getD,getElem?_eq_getElem hi];rfl):p:=h
theorem CB(h:p:=by rw[if_pos h1] at h;exact absurd h h1):p:=h
theorem z127(h:p:=by
  refine CD.skip ?_;have ahY:l1=l:=adf Mi w4;rw[ahY];refine⟨_,aI,rfl⟩):p:=h
theorem Mj(h:p:=by
  refine dw 2 ?_;refine OD.lY (f:=103) (args:=[_,_]) (all:=[_,_]) (Sf:=[]) aq rfl rfl ot call103 (zK a 2) rfl ⟨ot,bV,trivial⟩ (eX _) ?_;rintro _ _ ⟨rfl,rfl⟩;refine aH 1 ?_;refine bZ 68 (fun ajw ahZ=>?_) (fun ajw ahZ=>?_)
  ·refine aH 2 ?_;refine OD.lY (f:=103) (args:=[_,_]) (all:=[_,_]) (Sf:=[]) iN rfl rfl ot call103 (zK b 2) rfl ⟨ot,bV,trivial⟩ (eX _) ?_;rintro _ _ ⟨rfl,rfl⟩;exact Hz
  refine an 76 [11,12] ?_;refine af [12,74] ?_;refine eO ?_;exact AN):p:=h
theorem WQ(h:p:=by
  refine CD.seq ?_;refine qR 11 10 [5,7,31] ?_;refine cf (kL G n 40 gI iO w8) ?_;refine cf (RH ⟨n,cx n 40-20,s⟩ fY) ?_;refine mo ?_;refine iz ?_;refine⟨rfl,fun b7=>?_⟩;refine aP 0 [_,_,_] sizeOf56 ?_;refine an 69 [5,7] ?_;refine aB 2 ?_;refine ez call25 (FY (pV ⟨n,cx n 40-20,s⟩).s 4 w4) ?_;refine aH 1 ?_;refine aP 0 [_,_,_] sizeOf9 ?_;refine an 69 [5,7] ?_;refine aB 3 ?_;refine ey (cu 0 [_]) [.int .i64 0,.int .i64 0,.int .i64 0,.string ⟨#[]⟩,.string ⟨#[]⟩] [_,_,_,_,_] zeroValue58 runUnderlying42 sizeOf58 (fun Dn=>?_);exact z28):p:=h
theorem z130(h:p:=by
  refine dw 2 ?_;refine OD.lY (f:=103) (args:=[_,_]) (all:=[_,_]) (Sf:=[]) aq rfl rfl ot call103 (zK a 1) rfl ⟨ot,bV,trivial⟩ (eX _) ?_;rintro _ _ ⟨rfl,rfl⟩;refine aH 1 ?_;refine bZ 40 (fun Mk LC=>?_) (fun Mk LC=>?_)
  ·refine aH 2 ?_;refine OD.lY (f:=103) (args:=[_,_]) (all:=[_,_]) (Sf:=[]) iN rfl rfl ot call103 (zK b 1) rfl ⟨ot,bV,trivial⟩ (eX _) ?_;rintro _ _ ⟨rfl,rfl⟩;exact Hz
  refine an 76 [11,12] ?_;refine af [12,74] ?_;refine eO ?_;exact AN):p:=h
theorem z131(h:p:=by
  refine AD.one (i:=10) aC ?_;refine qm call70 (my (t.ag[i]'aa).high w4) ?_;refine dm 13 rfl (pi (pl:=[(0,_),(1,_),(2,_),(3,_),(4,_)]) (ds:=[_,_,_,_,_]) rfl zeroValue129 runUnderlying129 PF ⟨rfl,ot,rfl,ot,rfl,ot,rfl,ot,rfl,ot,trivial⟩ rfl rfl) ?_;refine AD.one (i:=14) aC ?_;refine nq (cu 0 [_]) [.bool false,.slice none 0 0,.slice none 0 0,.slice none 0 0,.int .i64 0] [_,_,_,_,_] zeroValue129 runUnderlying64 sizeOf129 (fun AV=>?_);refine nQ 0 46 5 1 ?_;exact z7):p:=h
theorem Ml(h:p:=by
  refine fm ?_;refine bu [3] ?_;refine af [52] ?_;refine au ?_ ?_<;>intro fF gM
  ·exact NR
  exact NR):p:=h
theorem GI(h:p:=by
  refine af [4,5,6] ?_;refine CD.wk (Wk.sA (t:=4) (sz:=1) lk) ?_;refine CD.wk (Wk.sA (t:=5) (sz:=1) lk) ?_;exact pG):p:=h
theorem WR(h:p:=by
  refine dw 3 ?_;refine OD.lY (f:=103) (args:=[_,_]) (all:=[_,_]) (Sf:=[]) aq rfl rfl ot call103 (zK a b) rfl ⟨ot,ot,trivial⟩ (eX _) ?_;rintro _ _ ⟨rfl,rfl⟩;refine aH 1 ?_;refine bZ 57 (fun uy Cc=>?_) (fun uy Cc=>?_)
  ·refine an 76 [11,12] ?_;refine af [12,74] ?_;refine gm ?_;exact AN
  exact Hz):p:=h
theorem WS(h:p:=by
  refine mL 7 rfl ?_;refine mL 8 rfl ?_;refine mL 9 rfl ?_;refine dM.later rfl ?_;refine AD.one (i:=10) aC ?_;refine bC.skip rfl (mT rfl rfl rfl lk jJ) rfl ?_;refine dm 11 rfl vF ?_;refine dm 12 rfl bD ?_;exact z8):p:=h
theorem GJ(h:p:=by
  skip;refine bu [1,2,39] ?_;refine eO ?_;refine af [4] ?_;refine eZ ?_;exact Hx):p:=h
theorem WT(h:p:=by
  have bL:(dK (mB key) (bw.take 2))<0\/(dK ik (bw.take 2))<0:=(by first|omega|(simp_all;omega)|simp_all)
  have nf:nE key bw nt (lo,hi)=(lo,hi):=(by unfold nE;rw[vo vI,if_neg sP,if_pos bL])
  rw[nf] at aV;exact Yd):p:=h
theorem z138(h:p:=by
  refine af [2] ?_;refine eZ ?_;exact Yc):p:=h
theorem z139(h:p:=by
  refine aH 4 ?_;refine ez call168 (Bz _) ?_;exact uJ):p:=h
theorem WU(h:p:=by
  refine aB 1 ?_;refine aP 0 [_,_] sizeOf35 ?_;refine aH 1 ?_;first|refine OD.cells (k:=0) (cs':=[.list 1 [] 0,_]) rfl ⟨fP,eM,trivial⟩ rfl ?_|skip
  refine an 87 [4,5] ?_;exact z51):p:=h
theorem z141(h:p:=by
  refine bS ?_;refine OD.alloc (ds:=[_,_,_]) aq rfl rfl zeroValue153 rfl (fun b2=>?_);refine an 5 [0,2] ?_;refine aB 2 ?_;refine aP 0 [_,_,_] sizeOf153 ?_;refine an 5 [2] ?_;exact nP):p:=h
theorem WV(h:p:=by
  refine af [52] ?_;refine au ?_ ?_<;>intro fF gM
  ·refine af [2] ?_;refine aK [] ?_;exact NT
  refine af [2] ?_;refine aK [] ?_;exact NT):p:=h
theorem z143(h:p:=by
  refine VC.body func53 rfl ntmps53 aU fun X0 w0 bj=>?_;refine af [0,1] ?_;refine aB 2 ?_;refine bN (Z3 rfl ot ot func99 aC aC aC aC) ?_;refine an 8 [4] ?_;exact nP):p:=h
theorem Ai(h:p:=by
  refine af [2] ?_;refine eZ ?_;exact NU):p:=h
theorem z145(h:p:=by
  refine cL [5,6,11,15,127] (HI) ?_;refine au ?_ ?_<;>intro fF gM
  ·exact absurd fF (by simp at fF)
  refine bM [5,6,11,15] ?_;exact N2):p:=h
theorem z146(h:p:=by
  have hf:nM (l.take i) l[i]=2:=(by unfold nM;rw[if_neg gZ,if_pos w4])
  have aV:fQ l=2:=(by rw[hinv,Jw aa (by rw[hf];decide),hf])
  exact yt):p:=h
theorem CC(h:p:=by
  refine af [2] ?_;refine aK [] ?_;exact Yc):p:=h
theorem z148(h:p:=by
  refine OD.perm (dU (A:=[])) ?_;refine an 8 [2] ?_;refine CD.gK (t:=2) (Sq:=S7) lk ql (cm pX _) (cZ (A:=[])) ?_;exact nP):p:=h
theorem WW(h:p:=by
  skip;refine bu [1,14] ?_;refine au ?_ ?_<;>intro bL cJ
  ·refine af [2] ?_;exact z20
  exact XX):p:=h
theorem xT(h:p:=by
  refine af [4,5] ?_;exact z51):p:=h
theorem WX(h:p:=by
  skip;refine aH 5 ?_;refine bZ 17 (fun xU xE=>?_) (fun xU xE=>?_)
  ·exact HE
  exact HE):p:=h
theorem z152(h:p:=by
  skip;refine bu [1,2,71] ?_;refine eO ?_;refine af [4] ?_;refine eZ ?_;exact Hx):p:=h
theorem WY(h:p:=by
  refine AD.one (i:=15) aC ?_;refine bC.iD rfl iN rfl rfl rfl call136 (TK t.s 137 xF call137 RI hs) ⟨ot,tW,trivial⟩ ?_;refine dm 19 rfl qn ?_;refine dm 20 rfl xV ?_;exact Ml):p:=h

end Go.Proofs.YtbplamgacibdaaaGreatDoor
namespace Go.Proofs.YtbplamgacibdaaaGreatDoor.V
open List
open Go.RowKit
variable {L X:Nat->Prop} {w':World} {b i k n off o' cap sz j m h' tt bytes:Nat} {I:Array Field} {v u:Value} {e t:TypeId} {y fo:Operand} {a:Act} {cur:Array Value} {lo hi:Option Operand} {ts:Array TypeId} {ad:Option Addr} {ps:Array (Nat×Operand)} {dc:Array Operand}
inductive D where
 | v (x:Value)
 | list (sz:Nat) (cs:List D) (len:Nat)
 | fL (cs:List D) (off:Nat)
 | agg (cs:List D)
 | da (cs:List D)
 | eI (f:Fn) (cs:List D)
 | kJ (l:Nat) (os:List (Nat×Obj))
 | bY
 deriving Inhabited
variable {ds cs':List D} {l:List (Nat×D)}
inductive cq (w:World) (L:Nat->Prop):D->Value->Prop
 | v (x:Value):cq w L (.v x) x
 | mG (sz:Nat) (ad:Option Addr) (cap:Nat):cq w L (.list sz [] 0) (.slice ad 0 cap)
 | list (sz:Nat) (cs:List D) (len b o cap:Nat) (f:Nat->Value) (hl:cs.length=len*sz) (h1:len<=cap) (h2:cap<=maxLen) (hb:b<w.heap.size) (hL:¬L b)
   (hc:∀i,i<cs.length->w.cell? ⟨b,o+i,none⟩=some (f i)) (hr:∀i (h:i<cs.length),cq w L cs[i] (f i)):cq w L (.list sz cs len) (.slice (some ⟨b,o,none⟩) len cap)
 | fL (cs:List D) (off b o:Nat) (f:Nat->Value) (hb:b<w.heap.size) (hL:¬L b)
   (hc:∀i,i<cs.length->w.cell? ⟨b,o+i,none⟩=some (f i)) (hr:∀i (h:i<cs.length),cq w L cs[i] (f i)):cq w L (.fL cs off) (.pointer (some ⟨b,o+off,none⟩))
 | agg (cs:List D) (vs:List Value) (hl:vs.length=cs.length) (hr:∀i (h:i<cs.length) (h':i<vs.length),cq w L cs[i] vs[i]):cq w L (.agg cs) (.agg vs.toArray)
 | da (cs:List D) (vs:List Value) (hl:vs.length=cs.length) (hr:∀i (h:i<cs.length) (h':i<vs.length),cq w L cs[i] vs[i]):cq w L (.da cs) (.tuple vs.toArray)
 | eI (fn:Fn) (cs:List D) (vs:List Value) (hl:vs.length=cs.length) (hr:∀i (h:i<cs.length) (h':i<vs.length),cq w L cs[i] vs[i]):cq w L (.eI fn cs) (.func fn #[] vs.toArray)
 | kJ (l:Nat) (os:List (Nat×Obj)) (h:∀z∈os,z.1<w.heap.size/\¬L z.1/\w.heap[z.1]?=some z.2):cq w L (.kJ l os) (.func (.yield l) #[] #[])
 | bY (x:Value):cq w L .bY x
theorem cq.nil{w:World}(sz:Nat):cq w L (.list sz [] 0) (.slice none 0 0):=.mG sz none 0
theorem rh{w:World}(hb:b<w.heap.size)(h:w'.heap[b]?=w.heap[b]?):b<w'.heap.size:=by
 rcases Nat.lt_or_ge b w'.heap.size with h'|h'
 ·exact h'
 rw[Array.getElem?_eq_none h',Array.getElem?_eq_getElem hb] at h;cases h
theorem cq.mono{w:World}{I:Nat->Prop}{d:D}(h:cq w L d v)(H:∀b,b<w.heap.size->¬L b->w'.heap[b]?=w.heap[b]?/\¬I b):cq w' I d v:=by
 induction h with
 | v x=>exact .v x
 | mG sz ad cap=>exact .mG sz ad cap
 | list sz cs len b o cap f hl h1 h2 hb hL hc hr ih =>
  have E:=H b hb hL;exact .list sz cs len b o cap f hl h1 h2 (rh hb E.1) E.2 (fun i hi=>(World.cell?_of_block (w:=w) (a:=⟨b,o+i,none⟩) E.1).trans (hc i hi)) ih
 | fL cs off b o f hb hL hc hr ih =>
  have E:=H b hb hL;exact .fL cs off b o f (rh hb E.1) E.2 (fun i hi=>(World.cell?_of_block (w:=w) (a:=⟨b,o+i,none⟩) E.1).trans (hc i hi)) ih
 | agg cs vs hl hr ih=>exact .agg cs vs hl ih
 | da cs vs hl hr ih=>exact .da cs vs hl ih
 | eI fn cs vs hl hr ih=>exact .eI fn cs vs hl ih
 | kJ l os h =>
  refine .kJ l os fun z hz=>?_;obtain⟨h1,h2,h3⟩:=h z hz;have E:=H z.1 h1 h2;exact⟨rh h1 E.1,E.2,E.1.trans h3⟩
 | bY x=>exact .bY x
structure ah where
 b:Nat
 e:TypeId
 size:Nat
 cs:List D
 deriving Inhabited
variable {S S' Sf R:List ah} {B:ah} {post:D->List ah->Prop}
def zz:TypeId:=1000003
def TL:TypeId:=1000004
def isMap(e:TypeId):Bool:=Nat.beq e zz||Nat.beq e TL
def Ce(cur:Array Value):Obj:=.map (cur.mapIdx fun i k=>⟨k,.agg #[],i⟩) cur.size
def Ve:Value->Nat
 | .int _ n=>n.toNat
 | _=>0
def WZ:List Value->List MapEntry
 | k::v::b::r=>⟨k,v,Ve b⟩::WZ r
 | _=>[]
def agB(cur:Array Value):Obj:=match cur.toList with
 | c::r=>.map (WZ r).toArray (Ve c)
 | []=>.map #[] 0
def ob(e:TypeId)(cur:Array Value):Obj:=bif isMap e then (bif Nat.beq e TL then agB cur else Ce cur) else .cells cur e (0,0)
theorem kM(he:isMap e=false)(cur:Array Value):ob e cur = .cells cur e (0,0):=by rw[ob,he];rfl
theorem Vf(cur:Array Value):ob zz cur=Ce cur:=rfl
def LF(w:World)(L:Nat->Prop)(B:ah):Prop :=
 B.b<w.heap.size/\∃cur:Array Value,w.heap[B.b]?=some (ob B.e cur)/\cur.size=B.size/\B.cs.length<=B.size/\∀i (h:i<B.cs.length),∃u,cur[i]?=some u/\cq w L B.cs[i] u
def ru:Value->Bool
 | .tuple _=>false
 | _=>true
def oG(w:World)(b i:Nat):Value->Prop
 | .tuple vs=>∃t fz,w.heap[b]?=some (.cells vs t fz)
 | v=>w.cell? ⟨b,i,none⟩=some v
theorem oG.cell{w:World}(h:oG w b i v)(E:ru v=true):w.cell? ⟨b,i,none⟩=some v:=by
 cases v<;>first|exact h|cases E
theorem oG.of{w:World}(h:w.cell? ⟨b,i,none⟩=some v)(E:ru v=true):oG w b i v:=by
 cases v<;>first|exact h|cases E
theorem oG.on{w:World}(hb:w'.heap[b]?=w.heap[b]?)(h:oG w b i v):oG w' b i v:=by
 by_cases E:ru v=true
 ·exact .of ((World.cell?_of_block (w:=w) (a:=⟨b,i,none⟩) hb).trans (h.cell E)) E
 cases v<;>first|exact absurd rfl E|(obtain⟨t,fz,h⟩:=h;exact⟨t,fz,hb.trans h⟩)
theorem oG.lt{w:World}(h:oG w b i v):b<w.heap.size:=by
 by_cases E:ru v=true
 ·exact World.block_lt_of_cell? w _ (h.cell E)
 cases v<;>first|exact absurd rfl E|(obtain⟨t,fz,h⟩:=h;exact(Array.getElem?_eq_some_iff.1 h).1)
theorem RJ{vs:List Value}(h:vs.all ru=true)(hi:vs[i]?=some v):ru v=true:=all_eq_true.1 h v (mem_of_getElem? hi)
structure dG where
 X:Nat->Prop
 w0:World
 S0:List Nat
 G:List (Nat×List Value)
 df:List Deferred
 Dp:Act->World->Prop
variable {C:dG}
structure St where
 n:Nat
 env:List (Nat×D)
 S:List ah
def look(t:Nat):List (Nat×D)->D
 | []=>.bY
 | (i,d)::r=>bif Nat.beq i t then d else look t r
theorem ga(t i:Nat)(d:D)(l:List (Nat×D)):look t ((i,d)::l)=if i=t then d else look t l:=by
 rw[look];by_cases e:i=t
 ·subst e;simp
 have:Nat.beq i t=false:=by
  cases h:Nat.beq i t with
  | false=>rfl
  | true=>exact absurd (Nat.eq_of_beq_eq_true h) e
 rw[this,if_neg e];rfl
def av(S:List ah):List Nat:=S.map (·.b)
def live(X:Nat->Prop)(S:List ah)(b:Nat):Prop:=X b\/b∈av S
structure Fr (w:World) (S:List Nat) (w':World) (S':List Nat):Prop where
 os:w'.os=w.os
 tape:w'.tape=w.tape
 output:w'.output=w.output
 size:w.heap.size<=w'.heap.size
 block:∀b,b<w.heap.size->b∉S->w'.heap[b]?=w.heap[b]?/\b∉S'
theorem Fr.refl(w:World)(S:List Nat):Fr w S w S:=⟨rfl,rfl,rfl,Nat.le_refl _,fun _ _ h=>⟨rfl,h⟩⟩
theorem Fr.trans{E I O:World}{S1 S2 S3:List Nat}(h:Fr E S1 I S2)(k:Fr I S2 O S3):Fr E S1 O S3 :=
 ⟨k.os.trans h.os,k.tape.trans h.tape,k.output.trans h.output,Nat.le_trans h.size k.size,fun b hb hn =>
  have h1:=h.block b hb hn;have h2:=k.block b (Nat.lt_of_lt_of_le hb h.size) h1.2
  ⟨h2.1.trans h1.1,h2.2⟩⟩
structure Own (w:World) (L:Nat->Prop) (S:List ah):Prop where
 at_:∀B∈S,LF w L B
 apart:(av S).Nodup
structure bI (C:dG) (x:St) (a:Act) (w:World):Prop where
 defers:a.defers=C.df
 size:a.tmps.size=x.n
 env:∀t,t<x.n->cq w (live C.X x.S) (look t x.env) (a.tmps.getD t undef)
 own:Own w (live C.X x.S) x.S
 fr:Fr C.w0 C.S0 w (av x.S)
 ex:∀b,C.X b->b<C.w0.heap.size/\b∉C.S0
 eV:∀g∈C.G,(g.1<C.w0.heap.size/\g.1∉C.S0/\¬C.X g.1)/\∀i v,g.2[i]?=some v->oG C.w0 g.1 i v
def St.put(x:St)(t:Nat)(d:D):St:=⟨x.n,(t,d)::x.env,x.S⟩
theorem bI.put{C:dG}{x:St}{a:Act}{w:World}(h:bI C x a w){t:Nat}{d:D}{v:Value}(hd:cq w (live C.X x.S) d v):bI C (x.put t d) (a.put (some t) v) w:=by
 refine⟨h.defers,by simp[Act.put,St.put,h.size],fun i hi=>?_,h.own,h.fr,h.ex,h.eV⟩;have hs:=h.size;simp only[St.put,ga,Act.put] at hi |-;by_cases e:t=i
 ·subst e;rw[if_pos rfl];have:(a.tmps.setIfInBounds t v).getD t undef=v:=by
   simp[Array.getElem?_setIfInBounds,hs,hi]
  rw[this];exact hd
 rw[if_neg e];have:(a.tmps.setIfInBounds t v).getD i undef=a.tmps.getD i undef:=by
  simp[Array.getElem?_setIfInBounds_ne e]
 rw[this];exact h.env i hi
def Wk(x y:St):Prop:=∀C a w,bI C x a w->bI C y a w
theorem Wk.refl(x:St):Wk x x:=fun _ _ _ h=>h
theorem Wk.trans{x y z:St}(h:Wk x y)(k:Wk y z):Wk x z:=fun C a w s=>k C a w (h C a w s)
theorem Own.sub{w:World}(h:Own w (live X S) S)(hs:S'.Sublist S):Own w (live X S') S' :=
 have E:(av S').Sublist (av S):=Sublist.map _ hs
 ⟨fun B hB=>by
  obtain⟨h0,cur,h1,h2,h3,h4⟩:=h.at_ B (hs.subset hB);refine⟨h0,cur,h1,h2,h3,fun i hi=>?_⟩;obtain⟨u,hu,hr⟩:=h4 i hi;exact⟨u,hu,hr.mono fun b _ hn=>⟨rfl,fun hl=>hn (hl.imp id fun q=>E.subset q)⟩⟩,h.apart.sublist E⟩
theorem Wk.drop(n:Nat)(l:List (Nat×D))(S S':List ah)(hs:S'.Sublist S):Wk ⟨n,l,S⟩ ⟨n,l,S'⟩:=fun C a w h =>
 have E:(av S').Sublist (av S):=Sublist.map _ hs
 ⟨h.defers,h.size,fun t ht=>(h.env t ht).mono fun b _ hn=>⟨rfl,fun hl=>hn (hl.imp id fun q=>E.subset q)⟩,h.own.sub hs,
  ⟨h.fr.os,h.fr.tape,h.fr.output,h.fr.size,fun b hb hn=>⟨(h.fr.block b hb hn).1,fun q=>(h.fr.block b hb hn).2 (E.subset q)⟩⟩,h.ex,h.eV⟩
theorem cq.lj{w:World}{x y:Value}(h:cq w L (.v x) y):y=x:=by cases h;rfl
def aG(x:St):Operand->D
 | .tmp t=>bif Nat.blt t x.n then look t x.env else .bY
 | .const v=>.v v
 | .global g=>.v (.pointer (some ⟨g,0,none⟩))
 | .func f=>.eI (.func f) []
theorem bI.eval{C:dG}{x:St}{a:Act}{w:World}(h:bI C x a w)(o:Operand):cq w (live C.X x.S) (aG x o) (a.eval o):=by
 cases o with
 | tmp t =>
  simp only[aG,Act.eval];cases ht:Nat.blt t x.n with
  | true=>exact h.env t (Nat.le_of_ble_eq_true ht)
  | false=>exact .bY _
 | const v=>exact .v _
 | global g=>exact .v _
 | func f=>exact .eI (.func f) [] [] rfl (fun i h=>by simp at h)
theorem bI.flat{x:St}{w:World}(h:bI C x a w){o:Operand}(ho:aG x o = .v u):a.eval o=u:=by
 have:=h.eval o;rw[ho] at this;exact this.lj
theorem bI.fJ{x:St}{w:World}(h:bI C x a w)(hk:x.S[k]?=some B):LF w (live C.X x.S) B:=h.own.at_ B (mem_of_getElem? hk)
theorem RL(hk:S[k]?=some B):live X S B.b:=.inr (mem_map.2 ⟨B,mem_of_getElem? hk,rfl⟩)
theorem bI.aN{x:St}{w:World}(h:bI C x a w){g:Nat×List Value}(hg:g∈C.G)(hi:g.2[i]?=some v):oG w g.1 i v:=by
 obtain⟨⟨h1,h2,h3⟩,h4⟩:=h.eV g hg;exact(h4 i v hi).on (h.fr.block g.1 h1 h2).1

inductive Rd where
 | none
 | fJ (k:Nat)
 | kC
def Same(C:dG)(x:St)(w w':World):Rd->Prop
 | .none=>True
 | .fJ k=>∀B,x.S[k]?=some B->w'.heap[B.b]?=w.heap[B.b]?
 | .kC=>∀b,b<w.heap.size->¬live C.X x.S b->w'.heap[b]?=w.heap[b]?
theorem Same.self(C:dG)(x:St)(w:World):∀k,Same C x w w k
 | .none=>trivial
 | .fJ _=>fun _ _=>rfl
 | .kC=>fun _ _ _=>rfl
def bX(P:Program)(G:List (Nat×List Value))(x:St)(o:Oper)(k:Rd)(d:D):Prop :=
 ∀C a w,C.G=G->bI C x a w->∃v,cq w (live C.X x.S) d v/\∀w',Same C x w w' k->(execOp a.eval o).run P w' = .ok (.value v) w'
variable {P:Program} {G:List (Nat×List Value)} {x:St} {o:Oper}
theorem aaO(ho:o.op = .move y):bX P G x o .none (aG x y):=fun C a w _ h =>
 ⟨a.eval y,h.eval y,fun w' _=>by unfold execOp;simp[ho]⟩
theorem aad(ho:o.op = .assign y):bX P G x o .none (aG x y):=fun C a w _ h =>
 ⟨a.eval y,h.eval y,fun w' _=>by unfold execOp;simp[ho]⟩
theorem P8{c z:Operand}{t:Bool}(ho:o.op = .pick c y z)(hc:aG x c = .v (.bool t)):bX P G x o .none (if t then aG x y else aG x z):=fun C a w _ h=>by
 refine⟨if t then a.eval y else a.eval z,by cases t<;>simp[h.eval],fun w' _=>?_⟩;unfold execOp;simp only[ho,h.flat hc,asBool];cases t<;>simp
def kZ(P:Program)(op:BinOp)(t:TypeId)(u u' r:Value):Prop:=∀(y z:Operand) w,(do eqGuard op t y z u u';Go.binOp op t u u':Sem Value).run P w = .ok r w
theorem dR{op:BinOp}{t':TypeId}{z:Operand}{u' r:Value}(ho:o.op = .binOp op t y z t')(hy:aG x y = .v u)(hz:aG x z = .v u')(hb:kZ P op t u u' r):bX P G x o .none (.v r):=fun C a w _ h =>
 ⟨r,.v _,fun w' _=>by
  unfold execOp;have:=hb y z w';simp only[Sem.run_bind] at this;simp only[ho,h.flat hy,h.flat hz,Sem.run_bind,this,Result.andThen_ok,Sem.run_pure]⟩
theorem Fe{op:UnOp}{r:Value}(ho:o.op = .unOp op t y)(hy:aG x y = .v u)(hb:∀w,(Op.unary op u).run P w = .ok r w):bX P G x o .none (.v r):=fun C a w _ h =>
 ⟨r,.v _,fun w' _=>by
  unfold execOp;simp only[ho,h.flat hy,Sem.run_bind,hb w',Result.andThen_ok,Sem.run_pure]⟩
theorem sg{s:TypeId}{r:Value}(ho:o.op = .convert s t y)(hy:aG x y = .v u)(hb:∀w,(Go.convert s t u).run P w = .ok r w):bX P G x o .none (.v r):=fun C a w _ h =>
 ⟨r,.v _,fun w' _=>by
  unfold execOp;simp only[ho,h.flat hy,Sem.run_bind,hb w',Result.andThen_ok,Sem.run_pure]⟩
theorem PG{s:TypeId}{f:Field}{w:World}(O:∀w,(underlying s).run P w = .ok (.struct I) w)(hf:I[i]?=some f)(hn:∀w,(sizeOf f.type).run P w = .ok (n+1) w)(E:f.offset=off) :
  (Instr.fieldAt s (.pointer (some ⟨b,o',none⟩)) i).run P w = .ok (.pointer (some ⟨b,o'+off,none⟩)) w:=by
 subst E;simp[Instr.fieldAt,O,hf,Instr.sureAddr,fieldPlace,hn,Addr.add_mid]
theorem aaq {s:TypeId} {f:Field} (ho:o.op = .fieldAddr s y i) (hy:aG x y = .v (.pointer (some ⟨b,o',none⟩)))
  (O:∀w,(underlying s).run P w = .ok (.struct I) w) (hf:I[i]?=some f) (hn:∀w,(sizeOf f.type).run P w = .ok (n+1) w) (E:f.offset=off):bX P G x o .none (.v (.pointer (some ⟨b,o'+off,none⟩))):=fun C a w _ h =>
 ⟨_,.v _,fun w' _=>by
  unfold execOp;simp only[ho,h.flat hy,Sem.run_bind,PG O hf hn E,Result.andThen_ok,Sem.run_pure]⟩
theorem aae {s:TypeId} {cs:List D} {f:Field} {O:Array Field} (ho:o.op = .fieldAddr s y i) (hy:aG x y = .fL cs o')
  (U:∀w,(underlying s).run P w = .ok (.struct O) w) (hf:O[i]?=some f) (hn:∀w,(sizeOf f.type).run P w = .ok (n+1) w) (E:f.offset=off):bX P G x o .none (.fL cs (o'+off)):=fun C a w _ h=>by
 have hr:=h.eval y;rw[hy] at hr;generalize hg:a.eval y=u at hr;cases hr with
 | fL _ _ b I g hb hL hc hr =>
  refine⟨_,.fL cs (o'+off) b I g hb hL hc hr,fun w' _=>?_⟩;unfold execOp;simp only[ho,hg,Sem.run_bind,PG U hf hn E,Result.andThen_ok,Sem.run_pure,Nat.add_assoc]
theorem aaP {s:TypeId} {cs:List D} {d:D} {f:Field} (ho:o.op = .field s y i) (hy:aG x y = .agg cs)
  (O:∀w,(underlying s).run P w = .ok (.struct I) w) (hf:I[i]?=some f) (ha:∀w,(isAgg f.type).run P w = .ok false w) (E:f.offset=off) (hd:cs[off]?=some d):bX P G x o .none d:=fun C a w _ h=>by
 have hr:=h.eval y;rw[hy] at hr;generalize hg:a.eval y=u at hr;subst E;cases hr with
 | agg _ vs hl hr =>
  obtain⟨aa,he⟩:=List.getElem?_eq_some_iff.1 hd;refine⟨vs[f.offset]'w4,?_,fun w' _=>?_⟩
  ·rw[<-he];exact hr _ aa w4
  unfold execOp;simp[ho,hg,Instr.field,O,hf,part,ha,asAgg,getElem?_eq_getElem (show f.offset<vs.length by omega)]
theorem Z4{cs:List D}{d:D}(ho:o.op = .extract y i)(hy:aG x y = .da cs)(hd:cs[i]?=some d):bX P G x o .none d:=fun C a w _ h=>by
 have hr:=h.eval y;rw[hy] at hr;generalize hg:a.eval y=u at hr;cases hr with
 | da _ vs hl hr =>
  obtain⟨aa,he⟩:=List.getElem?_eq_some_iff.1 hd;refine⟨vs[i]'w4,?_,fun w' _=>?_⟩
  ·rw[<-he];exact hr _ aa w4
  unfold execOp;simp[ho,hg,Instr.extract,getElem?_eq_getElem (show i<vs.length by omega)]
theorem I0{w:World}(ha:∀w,(isAgg t).run P w = .ok false w)(hc:w.cell? ⟨b,o',none⟩=some v) :
  (Instr.loadAt t (.pointer (some ⟨b,o',none⟩))).run P w = .ok v w:=by
 simp[Instr.loadAt,Instr.sureAddr,loadVar,ha,hc]
theorem I1 {vs:List Value} {w:World} (ha:∀w,(isAgg t).run P w = .ok true w) (hn:∀w,(sizeOf t).run P w = .ok n w) (hl:vs.length=n)
  (hc:∀j (h:j<vs.length),w.cell? ⟨b,o'+j,none⟩=some vs[j]) :
  (Instr.loadAt t (.pointer (some ⟨b,o',none⟩))).run P w = .ok (.agg vs.toArray) w:=by
 have:=run_loadCells_list (P:=P) w ⟨b,o',none⟩ vs (fun j v E=>by
  obtain⟨h1,h2⟩:=List.getElem?_eq_some_iff.1 E;rw[Addr.add_mid,hc j h1,h2])
 rw[hl] at this;simp[Instr.loadAt,Instr.sureAddr,loadVar,ha,hn,this]
theorem oE{w:World}(E:w.heap[b]?=some (.cells cur e (0,0)))(I:cur[i]?=some u):w.cell? ⟨b,i,none⟩=some u:=by
 unfold World.cell?;simp[E,I]
theorem EF {d:D} (ho:o.op = .load t y) (hy:aG x y = .v (.pointer (some ⟨b,o',none⟩)))
  (hk:x.S[k]?=some B) (hb:B.b=b) (ha:∀w,(isAgg t).run P w = .ok false w) (hd:B.cs[o']?=some d) (hne:isMap B.e=false:=by rfl):bX P G x o (.fJ k) d:=fun C a w _ h=>by
 obtain⟨_,cur,h1,h2,h3,h4⟩:=h.fJ hk;rw[kM hne] at h1;obtain⟨aa,he⟩:=List.getElem?_eq_some_iff.1 hd;obtain⟨u,hu,hr⟩:=h4 o' aa;refine⟨u,by rw[<-he];exact hr,fun w' hw=>?_⟩;have E:w'.heap[B.b]?=_:=(hw B hk).trans h1;unfold execOp;subst hb;simp only[ho,h.flat hy,Sem.run_bind,I0 ha (oE E hu),Result.andThen_ok,Sem.run_pure]
theorem Bi (ho:o.op = .load t y) (hy:aG x y = .v (.pointer (some ⟨b,o',none⟩)))
  (hk:x.S[k]?=some B) (hb:B.b=b) (ha:∀w,(isAgg t).run P w = .ok true w) (hn:∀w,(sizeOf t).run P w = .ok n w) (hl:ds.length=n) (hd:(B.cs.drop o').take n=ds) (hne:isMap B.e=false:=by rfl):bX P G x o (.fJ k) (.agg ds):=fun C a w _ h=>by
 obtain⟨_,cur,h1,h2,h3,h4⟩:=h.fJ hk;rw[kM hne] at h1;have hlen:o'+n<=B.cs.length\/n=0:=by
  have:=congrArg length hd;simp only[length_take,length_drop] at this;omega
 have E:∀j,j<n->∃u,cur[o'+j]?=some u/\∀(h:j<ds.length),cq w (live C.X x.S) ds[j] u:=fun j hj=>by
  obtain⟨u,hu,hr⟩:=h4 (o'+j) w4;refine⟨u,hu,fun h=>?_⟩;subst hd;simpa using hr
 refine⟨.agg ((range n).map fun j=>cur.getD (o'+j) undef).toArray,.agg _ _ (by simp[hl]) (fun i q1 q2=>?_),fun w' hw=>?_⟩
 ·obtain⟨u,hu,hr⟩:=E i w4;simp only[getElem_map,getElem_range,Array.getD_eq_getD_getElem?,hu,Option.getD_some];exact hr q1
 have I:w'.heap[B.b]?=_:=(hw B hk).trans h1;unfold execOp;subst hb;have:=I1 (P:=P) (w:=w') (b:=B.b) (o':=o') (vs:=(range n).map fun j=>cur.getD (o'+j) undef) ha hn bq (fun j hj=>by
  simp only[length_map,length_range] at hj;obtain⟨u,hu,_⟩:=E j hj;simp only[getElem_map,getElem_range,Array.getD_eq_getD_getElem?,hu,Option.getD_some];exact oE I hu)
 simp only[ho,h.flat hy,Sem.run_bind,this,Result.andThen_ok,Sem.run_pure]
theorem EE {cs:List D} {d:D} (ho:o.op = .load t y) (hy:aG x y = .fL cs o')
  (ha:∀w,(isAgg t).run P w = .ok false w) (hd:cs[o']?=some d):bX P G x o .kC d:=fun C a w _ h=>by
 have hr:=h.eval y;rw[hy] at hr;generalize hg:a.eval y=u at hr;cases hr with
 | fL _ _ b E g hb hL hc hr =>
  obtain⟨aa,he⟩:=List.getElem?_eq_some_iff.1 hd;refine⟨g o',by rw[<-he];exact hr o' aa,fun w' hw=>?_⟩;have I:=World.cell?_of_block (w:=w) (a:=⟨b,E+o',none⟩) (hw b hb hL);unfold execOp;simp only[ho,hg,Sem.run_bind,I0 ha (I.trans (hc o' aa)),Result.andThen_ok,Sem.run_pure]
theorem Iy {cs:List D} (ho:o.op = .load t y) (hy:aG x y = .fL cs o')
  (ha:∀w,(isAgg t).run P w = .ok true w) (hn:∀w,(sizeOf t).run P w = .ok n w) (hl:ds.length=n) (hd:(cs.drop o').take n=ds):bX P G x o .kC (.agg ds):=fun C a w _ h=>by
 have hr:=h.eval y;rw[hy] at hr;generalize hg:a.eval y=u at hr;cases hr with
 | fL _ _ b E g hb hL hc hr =>
  have hlen:o'+n<=cs.length\/n=0:=by
   have:=congrArg length hd;simp only[length_take,length_drop] at this;omega
  refine⟨.agg ((range n).map fun j=>g (o'+j)).toArray,.agg _ _ (by simp[hl]) (fun i q1 q2=>?_),fun w' hw=>?_⟩
  ·simp only[getElem_map,getElem_range];have:=hr (o'+i) w4;subst hd;simpa using this
  have:=I1 (P:=P) (w:=w') (b:=b) (o':=E+o') (vs:=(range n).map fun j=>g (o'+j)) ha hn bq (fun j hj=>by
   simp only[length_map,length_range] at hj;simp only[getElem_map,getElem_range];have I:=World.cell?_of_block (w:=w) (a:=⟨b,E+o'+j,none⟩) (hw b hb hL);rw[I,Nat.add_assoc];exact hc _ w4)
  unfold execOp;simp only[ho,hg,Sem.run_bind,this,Result.andThen_ok,Sem.run_pure]
theorem aar {vs:List Value} (ho:o.op = .load t y) (hy:aG x y = .v (.pointer (some ⟨b,o',none⟩)))
  (hg:(b,vs)∈G) (ha:∀w,(isAgg t).run P w = .ok false w) (hd:vs[o']?=some v) (qS:ru v=true:=by rfl):bX P G x o .kC (.v v):=fun C a w hG h=>by
 subst hG;refine⟨v,.v _,fun w' hw=>?_⟩;have h1:=(h.aN hg hd).cell qS;obtain⟨⟨q1,q2,E⟩,_⟩:=h.eV _ hg;have hb:b<w.heap.size:=Nat.lt_of_lt_of_le q1 h.fr.size;have hn:¬live C.X x.S b:=fun hl=>hl.elim E (h.fr.block b q1 q2).2;have I:=World.cell?_of_block (w:=w) (a:=⟨b,o',none⟩) (hw b hb hn);unfold execOp;simp only[ho,h.flat hy,Sem.run_bind,I0 ha (I.trans h1),Result.andThen_ok,Sem.run_pure]

theorem TM{len:Nat}{k:IntKind}{i:Int}{w:World}(E:∀w,(underlying t).run P w = .ok (.slice e) w)(hs:∀w,(sizeOf e).run P w = .ok sz w)(hi:i=j)(hj:j<len) :
  (Instr.indexAt t (.slice (some ⟨b,o',none⟩) len cap) (.int k i)).run P w = .ok (.pointer (some ⟨b,o'+j*sz,none⟩)) w:=by
 subst hi;simp[Instr.indexAt,asIntOf,E,hs,hj,Addr.add_mid]
theorem QA {len:Nat} {cs:List D} {k:IntKind} {i:Int} {z:Operand} (ho:o.op = .indexAddr t y z) (hy:aG x y = .list sz cs len) (hz:aG x z = .v (.int k i))
  (I:∀w,(underlying t).run P w = .ok (.slice e) w) (hs:∀w,(sizeOf e).run P w = .ok sz w) (hi:i=j) (hj:j<len):bX P G x o .none (.fL cs (j*sz)):=fun C a w _ h=>by
 have hr:=h.eval y;rw[hy] at hr;generalize hg:a.eval y=u at hr;cases hr with
 | mG=>omega
 | list _ _ _ b E cap g hl h1 h2 hb hL hc hr =>
  refine⟨_,.fL cs (j*sz) b E g hb hL hc hr,fun w' _=>?_⟩;unfold execOp;simp only[ho,hg,h.flat hz,Sem.run_bind,TM I hs hi hj,Result.andThen_ok,Sem.run_pure]
theorem P9 {len:Nat} {k:IntKind} {i:Int} {z:Operand} (ho:o.op = .indexAddr t y z) (hy:aG x y = .v (.slice (some ⟨b,o',none⟩) len cap)) (hz:aG x z = .v (.int k i))
  (E:∀w,(underlying t).run P w = .ok (.slice e) w) (hs:∀w,(sizeOf e).run P w = .ok sz w) (hi:i=j) (hj:j<len):bX P G x o .none (.v (.pointer (some ⟨b,o'+j*sz,none⟩))):=fun C a w _ h =>
 ⟨_,.v _,fun w' _=>by
  unfold execOp;simp only[ho,h.flat hy,h.flat hz,Sem.run_bind,TM E hs hi hj,Result.andThen_ok,Sem.run_pure]⟩
theorem adg{len:Nat}{k:IntKind}{i:Int}{w:World}(E:∀w,(underlying t).run P w = .ok (.array len e) w)(hs:∀w,(sizeOf e).run P w = .ok sz w)(hi:i=j)(hj:j<len) :
  (Instr.indexAt t (.pointer (some ⟨b,o',none⟩)) (.int k i)).run P w = .ok (.pointer (some ⟨b,o'+j*sz,none⟩)) w:=by
 subst hi;simp[Instr.indexAt,asIntOf,E,hs,hj,Addr.add_mid,Instr.sureAddr]
theorem aaQ {len:Nat} {k:IntKind} {i:Int} {z:Operand} (ho:o.op = .indexAddr t y z) (hy:aG x y = .v (.pointer (some ⟨b,o',none⟩))) (hz:aG x z = .v (.int k i))
  (E:∀w,(underlying t).run P w = .ok (.array len e) w) (hs:∀w,(sizeOf e).run P w = .ok sz w) (hi:i=j) (hj:j<len):bX P G x o .none (.v (.pointer (some ⟨b,o'+j*sz,none⟩))):=fun C a w _ h =>
 ⟨_,.v _,fun w' _=>by
  unfold execOp;simp only[ho,h.flat hy,h.flat hz,Sem.run_bind,adg E hs hi hj,Result.andThen_ok,Sem.run_pure]⟩
theorem IJ {s:ByteArray} {c:UInt8} {k:IntKind} {i:Int} {z:Operand} (ho:o.op = .index t y z) (hy:aG x y = .v (.string s)) (hz:aG x z = .v (.int k i))
  (E:∀w,(underlying t).run P w = .ok .string w) (hi:i=j) (hj:s[j]?=some c):bX P G x o .none (.v (.int .u8 c.toNat)):=fun C a w _ h =>
 ⟨_,.v _,fun w' _=>by
  subst hi;unfold execOp;simp[ho,h.flat hy,h.flat hz,Instr.index,asIntOf,E,hj]⟩
theorem aaR {len:Nat} {cs:List D} {d:D} {k:IntKind} {i:Int} {z:Operand} (ho:o.op = .index t y z) (hy:aG x y = .agg cs) (hz:aG x z = .v (.int k i))
  (E:∀w,(underlying t).run P w = .ok (.array len e) w) (hs:∀w,(sizeOf e).run P w = .ok sz w) (ha:∀w,(isAgg e).run P w = .ok false w) (hi:i=j) (hj:j<len) (hd:cs[j*sz]?=some d):bX P G x o .none d:=fun C a w _ h=>by
 have hr:=h.eval y;rw[hy] at hr;generalize hg:a.eval y=u at hr;subst hi;cases hr with
 | agg _ vs hl hr =>
  obtain⟨aa,he⟩:=List.getElem?_eq_some_iff.1 hd;refine⟨vs[j*sz]'w4,?_,fun w' _=>?_⟩
  ·rw[<-he];exact hr _ aa w4
  unfold execOp;simp[ho,hg,h.flat hz,Instr.index,asIntOf,E,hj,part,ha,hs,getElem?_eq_getElem (show j*sz<vs.length by omega)]
def mY(x:St)(y:Option Operand)(n:Nat)(ajx:Nat):Prop :=
 match y with
 | some y=>∃(k:IntKind) (i:Int),aG x y = .v (.int k i)/\i=n
 | none=>n=ajx
theorem sj{w:World}(h:bI C x a w){y:Option Operand}{E:Nat}(hb:mY x y n E):(∃k,y.map a.eval=some (.int k n))\/(y.map a.eval=none/\n=E):=by
 cases y with
 | none=>exact .inr ⟨rfl,hb⟩
 | some y =>
  obtain⟨k,i,h1,h2⟩:=hb;exact .inl ⟨k,by rw[Option.map_some,h.flat h1,h2]⟩
theorem EG{k:IntKind}{code:BoundsCode}{w:World}(h:n<=m):(Instr.sliceBound (.int k n) m code).run P w = .ok n w:=by
 unfold Instr.sliceBound;simp[asIntOf,h]
theorem wL{il:Bool}{len l h:Nat}{lo hi:Option Value}{w:World}(e9:(∃k,lo=some (.int k l))\/(lo=none/\l=0))(eL:(∃k,hi=some (.int k h))\/(hi=none/\h=len))(h1:l<=h)(h2:h<=cap) :
  (Instr.sliceBounds il len cap lo hi none).run P w = .ok (l,h,cap) w:=by
 unfold Instr.sliceBounds;rcases e9 with ⟨k,rfl⟩|⟨rfl,rfl⟩<;>rcases eL with ⟨k',rfl⟩|⟨rfl,rfl⟩<;>simp[EG,h1,h2]
theorem IA {len l:Nat} {cs:List D} (ho:o.op = .slice t y lo hi none) (hy:aG x y = .list sz cs len) (e9:mY x lo l 0) (eL:mY x hi h' len)
  (U:∀w,(underlying t).run P w = .ok (.slice e) w) (hs:∀w,(sizeOf e).run P w = .ok sz w) (h1:l<=h') (h2:h'<=len):bX P G x o .none (.list sz ((cs.drop (l*sz)).take ((h'-l)*sz)) (h'-l)):=fun C a w _ h=>by
 have hr:=h.eval y;rw[hy] at hr;generalize hg:a.eval y=u at hr;have b1:=sj h e9;have b2:=sj h eL;cases hr with
 | mG _ ad cap =>
  have e1:l=0:=(by omega)
  have e2:h'=0:=(by omega)
  subst e1 e2;refine⟨.slice (if cap=0 then ad else ad.map (·.add (0*sz))) 0 cap,by simpa using cq.mG sz _ _,fun w' _=>?_⟩;unfold execOp;simp[ho,hg,Instr.sliceAt,Instr.slice,U,wL b1 b2 (Nat.le_refl _) (Nat.zero_le _),hs]
 | list _ _ _ b E cap g hl q1 q2 hb hL hc hr =>
  have hlen:((cs.drop (l*sz)).take ((h'-l)*sz)).length=(h'-l)*sz:=by
   rw[length_take,length_drop,hl,<-Nat.sub_mul];exact Nat.min_eq_left (Nat.mul_le_mul_right _ w4)
  have O:∀i,i<(h'-l)*sz->l*sz+i<cs.length:=fun i hi=>by
   rw[hl];have:l*sz+(h'-l)*sz<=len*sz:=(by rw[<-Nat.add_mul];exact Nat.mul_le_mul_right _ w4)
   omega
  by_cases I:cap=l
  ·have e2:h'=l:=(by omega)
   refine⟨.slice (some ⟨b,E,none⟩) (h'-l) (cap-l),?_,fun w' _=>?_⟩
   ·refine .list sz _ _ b E _ g hlen w4 w4 hb hL (fun i hi=>?_) (fun i hi=>?_)<;>(rw[hlen,e2] at hi;simp at hi)
   have b3:=fun w=>wL (P:=P) (il:=true) (w:=w) b1 b2 h1 (Nat.le_trans h2 q1);unfold execOp;simp only[ho,hg,Instr.sliceAt,Instr.slice,U,Sem.run_bind,Result.andThen_ok,Option.map_none,b3,hs,Sem.run_pure,if_pos I]
  refine⟨.slice (some ⟨b,E+l*sz,none⟩) (h'-l) (cap-l),?_,fun w' _=>?_⟩
  ·refine .list sz _ _ b (E+l*sz) _ (fun i=>g (l*sz+i)) hlen w4 w4 hb hL (fun i hi=>?_) (fun i hi=>?_)
   ·rw[Nat.add_assoc];exact hc _ (O i (by rw[hlen] at hi;exact hi))
   simp only[getElem_take,getElem_drop];exact hr _ _
  have b3:=fun w=>wL (P:=P) (il:=true) (w:=w) b1 b2 h1 (Nat.le_trans h2 q1);unfold execOp;simp only[ho,hg,Instr.sliceAt,Instr.slice,U,Sem.run_bind,Result.andThen_ok,Option.map_none,b3,hs,Sem.run_pure,if_neg I,Option.map_some,Addr.add_mid]
theorem PP {len:Nat} (ho:o.op = .slice t y lo hi none) (hy:aG x y = .v (.slice (some ⟨b,o',none⟩) len cap)) (e9:mY x lo 0 0) (eL:mY x hi h' len)
  (E:∀w,(underlying t).run P w = .ok (.slice e) w) (hs:∀w,(sizeOf e).run P w = .ok sz w) (h2:h'<=cap):bX P G x o .none (.v (.slice (some ⟨b,o',none⟩) h' cap)):=fun C a w _ h =>
 ⟨_,.v _,fun w' _=>by
  have b1:=sj h e9;have b2:=sj h eL;unfold execOp;simp[ho,h.flat hy,Instr.sliceAt,Instr.slice,E,wL b1 b2 (Nat.zero_le _) h2,hs,Addr.add_mid]⟩
theorem aaf {s:ByteArray} {l:Nat} (ho:o.op = .slice t y lo hi none) (hy:aG x y = .v (.string s)) (e9:mY x lo l 0) (eL:mY x hi h' s.size)
  (E:∀w,(underlying t).run P w = .ok .string w) (h1:l<=h') (h2:h'<=s.size):bX P G x o .none (.v (.string (s.extract l h'))):=fun C a w _ h =>
 ⟨_,.v _,fun w' _=>by
  have b1:=sj h e9;have b2:=sj h eL;unfold execOp;simp[ho,h.flat hy,Instr.sliceAt,Instr.slice,E,wL b1 b2 h1 h2]⟩
theorem abC{len:Nat}{cs:List D}(ho:o.op = .call {callee:=.builtin .len,args:=#[y],argTypes:=ts})(ht:ts = #[t])(hy:aG x y = .list sz cs len)(E:∀w,(underlying t).run P w = .ok (.slice e) w):bX P G x o .none (.v (.int .i64 len)):=fun C a w _ h=>by
 have hr:=h.eval y;rw[hy] at hr;generalize hg:a.eval y=u at hr;subst ht;refine⟨_,.v _,fun w' _=>?_⟩;cases hr<;>(unfold execOp;simp[ho,hg,resolve,invoke,builtin,Builtin.len_,E,goInt])
theorem Qa{len:Nat}(ho:o.op = .call {callee:=.builtin .len,args:=#[y],argTypes:=ts})(ht:ts = #[t])(hy:aG x y = .v (.slice ad len cap))(E:∀w,(underlying t).run P w = .ok (.slice e) w):bX P G x o .none (.v (.int .i64 len)):=fun C a w _ h=>by
 subst ht;refine⟨_,.v _,fun w' _=>?_⟩;unfold execOp;simp[ho,h.flat hy,resolve,invoke,builtin,Builtin.len_,E,goInt]
theorem EH {s:ByteArray} (ho:o.op = .call {callee:=.builtin .len,args:=#[y],argTypes:=ts}) (ht:ts = #[t]) (hy:aG x y = .v (.string s))
  (E:∀w,(underlying t).run P w = .ok .string w):bX P G x o .none (.v (.int .i64 s.size)):=fun C a w _ h=>by
 subst ht;refine⟨_,.v _,fun w' _=>?_⟩;unfold execOp;simp[ho,h.flat hy,resolve,invoke,builtin,Builtin.len_,E,goInt]
theorem aag {b:Builtin} {u' r:Value} {z:Operand} (ho:o.op = .call {callee:=.builtin b,args:=#[y,z],argTypes:=ts}) (hy:aG x y = .v u) (hz:aG x z = .v u')
  (hb:∀cs w,(Go.builtin b ts o.type cs #[u,u']).run P w = .ok (.value r) w):bX P G x o .none (.v r):=fun C a w _ h =>
 ⟨_,.v _,fun w' _=>by
  unfold execOp;simp[ho,h.flat hy,h.flat hz,resolve,invoke,hb]⟩
theorem aaS{fn:Fn}{E:Array Operand}(ho:o.op = .makeFunc fn #[] E)(hd:E.toList.map (aG x)=ds):bX P G x o .none (.eI fn ds):=fun C a w _ h=>by
 subst hd;refine⟨.func fn #[] (E.toList.map a.eval).toArray,.eI _ _ _ bq (fun i q1 q2=>?_),fun w' _=>?_⟩
 ·simp only[getElem_map];exact h.eval _
 unfold execOp;simp[ho,Instr.makeFunc];rw[<-Array.toList_map,Array.toArray_toList]
def mq(W:List Nat)(w w':World):Prop:=w.heap.size<=w'.heap.size/\∀b,b<w.heap.size->b∉W->w'.heap[b]?=w.heap[b]?
def fU(P:Program)(G:List (Nat×List Value))(x:St)(o:Oper)(W:List Nat)(post:St->Prop):Prop :=
 ∀(C:dG) (a:Act) (w:World) (K:Act->World->Prop) (Q:Exit->Act->World->Prop),C.G=G->bI C x a w->(∀y a' w',post y->bI C y a' w'->mq W w w'->Fr w (av x.S) w' (av y.S)->K a' w')->o.wp P a w K Q
theorem mq.refl(W:List Nat)(w:World):mq W w w:=⟨Nat.le_refl _,fun _ _ _=>rfl⟩
theorem bX.gj{k:Rd}{d:D}{t:Nat}(h:bX P G x o k d)(hd:o.dst=some t):fU P G x o [] (fun y=>y=x.put t d):=fun C a w K Q hG hs hK=>by
 obtain⟨v,hr,oh⟩:=h C a w hG hs;unfold Oper.wp;rw[oh w (Same.self C x w k),Oper.upon_value,hd];exact hK _ _ _ rfl (hs.put hr) (mq.refl _ _) (Fr.refl _ _)
def cellsOf:D->List D
 | .agg cs=>cs
 | .v (.agg cs)=>cs.toList.map .v
 | d=>[d]
def cD(w:World)(L:Nat->Prop)(ds:List D)(vs:List Value):Prop:=vs.length=ds.length/\∀i (h:i<ds.length) (h':i<vs.length),cq w L ds[i] vs[i]
theorem cD.mono{w w':World}{L E:Nat->Prop}{ds:List D}{vs:List Value}(h:cD w L ds vs)(H:∀b,b<w.heap.size->¬L b->w'.heap[b]?=w.heap[b]?/\¬E b):cD w' E ds vs :=
 ⟨h.1,fun i h1 h2=>(h.2 i h1 h2).mono H⟩
def one:D->Bool
 | .v x=>x.oneCell'
 | .list ..|.fL ..|.eI ..=>true
 | _=>false
theorem cq.BA{w:World}{d:D}(h:cq w L d v)(hd:one d=true):v.oneCell'=true:=by
 cases h<;>first|exact hd|rfl|exact absurd hd (by simp[one])
theorem cq.cells{w:World}{L:Nat->Prop}{d:D}{v:Value}(h:cq w L d v)(hd:d≠.bY):cD w L (cellsOf d) v.cells.toList:=by
 have E:∀(d:D) (v:Value),v.cells = #[v]->cellsOf d=[d]->cq w L d v->cD w L (cellsOf d) v.cells.toList:=fun d v h1 h2 h3=>by
  rw[h1,h2];refine⟨rfl,fun i q1 q2=>?_⟩;have:i=0:=(by simpa using q1)
  subst this;exact h3
 cases h with
 | v =>
  cases v with
  | agg cs =>
   refine⟨by simp[cellsOf,Value.cells],fun i q1 q2=>?_⟩;simp only[cellsOf,getElem_map,Value.cells];exact .v _
  | _=>exact E _ _ rfl rfl (.v _)
 | mG sz ad cap=>exact E _ _ rfl rfl (.mG sz ad cap)
 | list sz cs len b o cap f hl h1 h2 hb hL hc hr=>exact E _ _ rfl rfl (.list sz cs len b o cap f hl h1 h2 hb hL hc hr)
 | fL cs off b o f hb hL hc hr=>exact E _ _ rfl rfl (.fL cs off b o f hb hL hc hr)
 | agg cs vs hl hr=>exact⟨by simp[cellsOf,Value.cells,hl],fun i q1 q2=>hr i q1 q2⟩
 | da cs vs hl hr=>exact E _ _ rfl rfl (.da cs vs hl hr)
 | eI fn cs vs hl hr=>exact E _ _ rfl rfl (.eI fn cs vs hl hr)
 | kJ l os h=>exact E _ _ rfl rfl (.kJ l os h)
 | bY=>exact absurd rfl hd
theorem getElem?_push_lt{w:World}{ob:Obj}(h:b<w.heap.size):(w.alloc ob).heap[b]?=w.heap[b]?:=Below.heap_alloc w ob b h
theorem bI.VW {w:World} (h:bI C x a w) {t:Nat} {cells:Array Value} {size:Nat} (hr:cD w (live C.X x.S) ds cells.toList) (I:cells.size=size) {d:D}
  (hd:∀L,cq (w.alloc (ob e cells)) L d v) :
  bI C ⟨x.n,(t,d)::x.env,⟨w.heap.size,e,size,ds⟩::x.S⟩ (a.put (some t) v) (w.alloc (ob e cells)):=by
 have aa:∀b,live C.X x.S b->b<w.heap.size:=fun b hb=>by
  rcases hb with hb|hb
  ·exact Nat.lt_of_lt_of_le (h.ex b hb).1 h.fr.size
  obtain⟨B,hB,rfl⟩:=mem_map.1 hb;exact(h.own.at_ B hB).1
 have H:∀b,b<w.heap.size->¬live C.X x.S b->(w.alloc (ob e cells)).heap[b]?=w.heap[b]?/\¬live C.X (⟨w.heap.size,e,size,ds⟩::x.S) b:=fun b hb hn =>
  ⟨getElem?_push_lt hb,fun hl=>by
   rcases hl with hl|hl
   ·exact hn (.inl hl)
   simp only[av,map_cons,mem_cons] at hl;rcases hl with hl|hl
   ·omega
   exact hn (.inr hl)⟩
 have base:bI C ⟨x.n,x.env,⟨w.heap.size,e,size,ds⟩::x.S⟩ a (w.alloc (ob e cells)):=by
  refine⟨h.defers,h.size,fun t ht=>(h.env t ht).mono H,⟨fun B hB=>?_,?_⟩,?_,h.ex,h.eV⟩
  ·rcases mem_cons.1 hB with rfl|hB
   ·refine⟨by simp,cells,heap_alloc_new w _,I,?_,fun i hi=>?_⟩
    ·have:=hr.1;simp at this;simp only;omega
    have E:i<cells.toList.length:=(by rw[hr.1];exact hi)
    refine⟨cells.toList[i],?_,(hr.2 i hi E).mono H⟩;simp at E;simp[E]
   obtain⟨h0,cur,h1,h2,h3,h4⟩:=h.own.at_ B hB;refine⟨by simp;omega,cur,(getElem?_push_lt h0).trans h1,h2,h3,fun i hi=>?_⟩;obtain⟨u,hu,hq⟩:=h4 i hi;exact⟨u,hu,hq.mono H⟩
  ·show(w.heap.size::av x.S).Nodup;exact nodup_cons.2 ⟨fun hm=>Nat.lt_irrefl _ (aa _ (.inr hm)),h.own.apart⟩
  refine⟨h.fr.os,h.fr.tape,h.fr.output,by simp;have:=h.fr.size;omega,fun b hb hn=>?_⟩;obtain⟨q1,q2⟩:=h.fr.block b hb hn;have O:=Nat.lt_of_lt_of_le hb h.fr.size;refine⟨(getElem?_push_lt O).trans q1,fun hm=>?_⟩;simp only[av,map_cons,mem_cons] at hm;rcases hm with hm|hm
  ·omega
  exact q2 hm
 exact base.put (hd _)
theorem bI.new {w:World} (h:bI C x a w) {t:Nat} {cells:Array Value} {size:Nat} (hr:cD w (live C.X x.S) ds cells.toList) (E:cells.size=size) {d:D}
  (hd:∀L,cq (w.alloc (.cells cells e)) L d v) (hne:isMap e=false:=by rfl) :
  bI C ⟨x.n,(t,d)::x.env,⟨w.heap.size,e,size,ds⟩::x.S⟩ (a.put (some t) v) (w.alloc (.cells cells e)):=by
 have:=bI.VW h (e:=e) hr E (t:=t) (d:=d) (v:=v) (fun L=>by rw[kM hne];exact hd L);rw[kM hne] at this;exact this
theorem mq.alloc(w:World)(ob:Obj):mq [] w (w.alloc ob):=⟨by simp,fun b hb _=>getElem?_push_lt hb⟩
theorem Fr.alloc(w:World)(ob:Obj)(S:List Nat):Fr w S (w.alloc ob) (w.heap.size::S) :=
 ⟨rfl,rfl,rfl,by simp,fun b hb hn=>⟨getElem?_push_lt hb,fun hm=>by
  rcases mem_cons.1 hm with hm|hm
  ·omega
  exact hn hm⟩⟩
def xw(x:St)(t:Nat)(e:TypeId)(ds:List D)(y:St):Prop:=∃b,y=⟨x.n,(t,.v (.pointer (some ⟨b,0,none⟩)))::x.env,⟨b,e,ds.length,ds⟩::x.S⟩
theorem ES{z:Value}{t:Nat}(ho:o.op = .alloc e)(hd:o.dst=some t)(hz:∀w,(zeroValue e).run P w = .ok z w)(j9:z.cells.toList.map .v=ds)(hne:isMap e=false:=by rfl):fU P G x o [] (xw x t e ds):=fun C a w K Q hG h hK=>by
 subst j9;unfold Oper.wp;have:(execOp a.eval o).run P w = .ok (.value (.pointer (some ⟨w.heap.size,0,none⟩))) (w.alloc (.cells z.cells e)):=by
  unfold execOp;simp[ho,Instr.alloc,hz,newVar,newRow]
 rw[this,Oper.upon_value,hd];refine hK _ _ _ ⟨w.heap.size,rfl⟩ (h.new (ds:=z.cells.toList.map .v) ⟨by simp,fun i q1 q2=>?_⟩ bq (fun L=>.v _) hne) (mq.alloc _ _) (Fr.alloc _ _ _);simp only[getElem_map];exact .v _
theorem aeZ{t:Nat}{d:D}(ho:o.op = .box e y)(hd:o.dst=some t)(hy:aG x y=d)(hj:d≠.bY)(j9:cellsOf d=ds)(hne:isMap e=false:=by rfl):fU P G x o [] (xw x t e ds):=fun C a w K Q hG h hK=>by
 subst j9;unfold Oper.wp;have:(execOp a.eval o).run P w = .ok (.value (.pointer (some ⟨w.heap.size,0,none⟩))) (w.alloc (.cells (a.eval y).cells e)):=by
  unfold execOp;simp[ho,Instr.box,newVar,newRow]
 rw[this,Oper.upon_value,hd];have hr:=h.eval y;rw[hy] at hr;have hc:=hr.cells hj;refine hK _ _ _ ⟨w.heap.size,rfl⟩ (h.new (ds:=cellsOf d) hc (by have:=hc.1;simpa using this) (fun L=>.v _) hne) (mq.alloc _ _) (Fr.alloc _ _ _)

def dh(cs:List D)(off:Nat):List D->List D
 | []=>cs
 | d::r=>dh (cs.set off d) (off+1) r
def mD(place:Nat->Option (Nat×Nat))(cells:List D):List (Nat×D)->Option (List D)
 | []=>some cells
 | (i,d)::rest =>
  match place i with
  | none=>none
  | some (off,size)=>if (cellsOf d).length≠size||off+(cellsOf d).length>cells.length then none else mD place (dh cells off (cellsOf d)) rest
theorem cD.set{w:World}{L:Nat->Prop}{ds:List D}{vs:List Value}(h:cD w L ds vs)(i:Nat){d:D}{v:Value}(hd:cq w L d v):cD w L (ds.set i d) (vs.set i v) :=
 ⟨by simp[h.1],fun j h1 h2=>by
  rw[getElem_set,getElem_set];split
  ·exact hd
  exact h.2 j _ _⟩
theorem cD.tail{w:World}{d:D}{vs:List Value}(h:cD w L (d::ds) (v::vs)):cq w L d v/\cD w L ds vs :=
 ⟨h.2 0 bq bq,by simpa using h.1,fun i h1 h2=>h.2 (i+1) (by simpa using h1) (by simpa using h2)⟩
theorem I2{β:Type}(f:β->Value->Nat->β):∀(r:List Value) (k:Nat) (z:β),(r.zipIdx (k+1)).foldl (fun c (x:Value×Nat)=>f c x.1 x.2) z=(r.zipIdx k).foldl (fun c (x:Value×Nat)=>f c x.1 (x.2+1)) z
 | [],_,_=>rfl
 | v::r,k,z=>by
  simp only[zipIdx_cons,foldl_cons];exact I2 f r (k+1) _
theorem cD.dh{w:World}{L:Nat->Prop}:∀(ds:List D) (vs:List Value) (cs:List D) (cells:List Value) (off:Nat),cD w L ds vs->cD w L cs cells->cD w L (dh cs off ds) (vs.zipIdx.foldl (fun cs (c,j)=>cs.set (off+j) c) cells)
 | [],[],cs,cells,off,_,h=>h
 | [],_::_,_,_,_,h,_=>by simp[cD] at h
 | _::_,[],_,_,_,h,_=>by simp[cD] at h
 | d::ds,v::vs,cs,cells,off,h,hc=>by
  obtain⟨h0,h1⟩:=h.tail;have ih:=cD.dh ds vs (cs.set off d) (cells.set off v) (off+1) h1 (hc.set off h0);have e:(v::vs).zipIdx.foldl (fun cs (x:Value×Nat)=>cs.set (off+x.2) x.1) cells=vs.zipIdx.foldl (fun cs (x:Value×Nat)=>cs.set (off+1+x.2) x.1) (cells.set off v):=by
   rw[zipIdx_cons,foldl_cons,Nat.add_zero,I2 (fun (c:List Value) v n=>c.set (off+n) v)];congr 1;funext a b;rw[Nat.add_assoc,Nat.add_comm 1]
  rw[e];exact ih
theorem ET:∀(l:List (Value×Nat)) (cells:Array Value) (off:Nat),(l.foldl (fun cs (x:Value×Nat)=>cs.setIfInBounds (off+x.2) x.1) cells).toList=l.foldl (fun cs (x:Value×Nat)=>cs.set (off+x.2) x.1) cells.toList
 | [],_,_=>rfl
 | (v,j)::l,cells,off=>by
  simp only[foldl_cons];rw[ET l];simp
theorem Ff{w:World}{L:Nat->Prop}(place:Nat->Option (Nat×Nat)):∀(E:List (Nat×D)) (sR:List (Nat×Value)) (cs:List D) (cells:Array Value) (ds:List D),
  E.length=sR.length->(∀i (h:i<E.length) (h':i<sR.length),E[i].1=sR[i].1/\E[i].2≠.bY/\cq w L E[i].2 sR[i].2)->cD w L cs cells.toList->mD place cs E=some ds ->
  ∃I,Instr.fill place cells sR=some I/\cD w L ds I.toList
 | [],[],cs,cells,ds,_,_,hc,hf=>by
  simp only[mD,Option.some.injEq] at hf;subst hf;exact⟨cells,rfl,hc⟩
 | [],_::_,_,_,_,h,_,_,_=>by simp at h
 | _::_,[],_,_,_,h,_,_,_=>by simp at h
 | (i,d)::E,(j,v)::sR,cs,cells,ds,hl,hp,hc,hf=>by
  obtain⟨h1,h2,h3⟩:=hp 0 bq bq;simp only[getElem_cons_zero] at h1 h2 h3;subst h1;have ox:=h3.cells h2;have fj:v.cells.size=(cellsOf d).length:=(by have:=ox.1;simpa using this)
  have O:cells.size=cs.length:=(by have:=hc.1;simpa using this)
  unfold mD at hf;unfold Instr.fill;cases fx:place i with
  | none=>rw[fx] at hf;simp at hf
  | some os =>
   obtain⟨off,size⟩:=os;simp only[fx] at hf |-;rw[fj,O];split at hf
   ·cases hf
   rename_i hn;rw[if_neg hn];refine Ff place E sR _ _ ds uI (fun i h h'=>hp (i+1) oV (by simpa using h')) ?_ hf;have:=cD.dh (w:=w) (L:=L) (cellsOf d) v.cells.toList cs cells.toList off ox hc;rw[<-ET] at this;have e:v.cells.zipIdx.foldl (fun cs (x:Value×Nat)=>cs.setIfInBounds (off+x.2) x.1) cells=v.cells.toList.zipIdx.foldl (fun cs (x:Value×Nat)=>cs.setIfInBounds (off+x.2) x.1) cells:=by
    rw[<-Array.foldl_toList,Array.toList_zipIdx]
   rw[e];exact this
theorem cD.sR(w:World)(L:Nat->Prop)(vs:List Value):cD w L (vs.map .v) vs:=⟨by simp,fun i h1 h2=>by simp only[getElem_map];exact .v _⟩
def lW(x:St)(ps:Array (Nat×Operand)):List (Nat×D):=ps.toList.map fun p=>(p.1,aG x p.2)
theorem I3{w:World}(h:bI C x a w)(ps:Array (Nat×Operand))(hj:∀p∈lW x ps,p.2≠.bY):(lW x ps).length=((ps.map fun p=>(p.1,a.eval p.2)).toList).length /\
  ∀i (h1:i<(lW x ps).length) (h2:i<((ps.map fun p=>(p.1,a.eval p.2)).toList).length),(lW x ps)[i].1=((ps.map fun p=>(p.1,a.eval p.2)).toList)[i].1/\(lW x ps)[i].2≠.bY/\cq w (live C.X x.S) (lW x ps)[i].2 ((ps.map fun p=>(p.1,a.eval p.2)).toList)[i].2:=by
 refine⟨by simp[lW],fun i h1 h2=>⟨?_,hj _ (getElem_mem h1),?_⟩⟩
 ·simp[lW]
 simp only[lW,getElem_map,Array.toList_map];exact h.eval _
theorem aas {E:Array Field} {places:Array (Nat×Nat)} {z:Value} (ho:o.op = .build t ps) (hz:∀w,(zeroValue t).run P w = .ok z w)
  (I:∀w,(underlying t).run P w = .ok (.struct E) w) (hp:∀w,(E.mapM fun f=>do pure (f.offset,<-sizeOf f.type):Sem (Array (Nat×Nat))).run P w = .ok places w)
  (hj:∀p∈lW x ps,p.2≠.bY) (hd:mD (places[·]?) (z.cells.toList.map .v) (lW x ps)=some ds):bX P G x o .none (.agg ds):=fun C a w _ h=>by
 obtain⟨q1,q2⟩:=I3 h ps hj;obtain⟨B5,h1,h2⟩:=Ff (w:=w) (L:=live C.X x.S) (places[·]?) (lW x ps) ((ps.map fun p=>(p.1,a.eval p.2)).toList) _ z.cells ds q1 q2 (cD.sR _ _ _) hd;refine⟨.agg B5.toList.toArray,.agg _ _ h2.1 h2.2,fun w' _=>?_⟩;unfold execOp;simp only[ho,Instr.build,hz,I,hp,Sem.run_bind,Result.andThen_ok,h1,Sem.run_pure,Array.toArray_toList]
theorem aah {z:Value} (ho:o.op = .build t ps) (hz:∀w,(zeroValue t).run P w = .ok z w)
  (E:∀w,(underlying t).run P w = .ok (.array n e) w) (hs:∀w,(sizeOf e).run P w = .ok sz w)
  (hj:∀p∈lW x ps,p.2≠.bY) (hd:mD (fun i=>some (i*sz,sz)) (z.cells.toList.map .v) (lW x ps)=some ds):bX P G x o .none (.agg ds):=fun C a w _ h=>by
 obtain⟨q1,q2⟩:=I3 h ps hj;obtain⟨B5,h1,h2⟩:=Ff (w:=w) (L:=live C.X x.S) (fun i=>some (i*sz,sz)) (lW x ps) ((ps.map fun p=>(p.1,a.eval p.2)).toList) _ z.cells ds q1 q2 (cD.sR _ _ _) hd;refine⟨.agg B5.toList.toArray,.agg _ _ h2.1 h2.2,fun w' _=>?_⟩;unfold execOp;simp only[ho,Instr.build,hz,E,hs,Sem.run_bind,Result.andThen_ok,h1,Sem.run_pure,Array.toArray_toList]
def ae0(x:St)(t:Nat)(e:TypeId)(len:Nat)(ds:List D)(y:St):Prop:=∃b,y=⟨x.n,(t,.v (.slice (some ⟨b,0,none⟩) len len))::x.env,⟨b,e,ds.length,ds⟩::x.S⟩
theorem Iv {len:Nat} {z:Value} {zs:List D} (ho:o.op = .buildSlice t len ps) (jY:o.dst=some tt) (hz:∀w,(zeroValue e).run P w = .ok z w)
  (I:∀w,(underlying t).run P w = .ok (.slice e) w) (hs:∀w,(sizeOf e).run P w = .ok sz w) (hl:0<len*sz) (gp:len*sz<=2 ^ 24) (fa:(Array.range (len*sz)).map (fun i=>z.cells[i % z.cells.size]!)=(zs.map (fun d=>match d with|.v u=>u|_=>undef)).toArray) (O:∀d∈zs,∃u,d = .v u)
  (hj:∀p∈lW x ps,p.2≠.bY) (hd:mD (fun i=>some (i*sz,sz)) zs (lW x ps)=some ds) (hne:isMap e=false:=by rfl):fU P G x o [] (ae0 x tt e len ds):=fun C a w K Q hG h hK=>by
 obtain⟨q1,q2⟩:=I3 h ps hj;have U:cD w (live C.X x.S) zs ((zs.map (fun d=>match d with|.v u=>u|_=>undef)).toArray).toList:=by
  refine⟨by simp,fun i h1 h2=>?_⟩;obtain⟨u,I⟩:=O _ (getElem_mem h1);simp only[getElem_map,I];exact .v _
 obtain⟨B5,h1,h2⟩:=Ff (w:=w) (L:=live C.X x.S) (fun i=>some (i*sz,sz)) (lW x ps) ((ps.map fun p=>(p.1,a.eval p.2)).toList) _ _ ds q1 q2 U hd;unfold Oper.wp;have:(execOp a.eval o).run P w = .ok (.value (.slice (some ⟨w.heap.size,0,none⟩) len len)) (w.alloc (.cells B5 e)):=by
  unfold execOp;have E:¬len*sz=0:=(by omega)
  have Z:¬len*sz>2 ^ 24:=(by omega)
  simp only[ho,Instr.buildSlice,hz,I,hs,Sem.run_bind,Result.andThen_ok,Sem.run_pure,if_neg E,if_neg Z,fa,h1];simp[newRow]
 rw[this,Oper.upon_value,jY];exact hK _ _ _ ⟨w.heap.size,rfl⟩ (h.new (ds:=ds) h2 (by have:=h2.1;simpa using this) (fun L=>.v _) hne) (mq.alloc _ _) (Fr.alloc _ _ _)
theorem PI(b:Nat):∀(vs:List Value) (o':Nat) (w:World) (cur:Array Value) (e:TypeId),w.heap[b]?=some (.cells cur e (0,0))->o'+vs.length<=cur.size ->
  (w.setCells b o' vs).heap[b]?=some (.cells (vs.zipIdx.foldl (fun cs (x:Value×Nat)=>cs.setIfInBounds (o'+x.2) x.1) cur) e (0,0))/\(∀k,k≠b->(w.setCells b o' vs).heap[k]?=w.heap[k]?)/\(w.setCells b o' vs).heap.size=w.heap.size /\
  (w.setCells b o' vs).os=w.os/\(w.setCells b o' vs).tape=w.tape/\(w.setCells b o' vs).output=w.output
 | [],o',w,cur,e,h,_=>⟨h,fun _ _=>rfl,rfl,rfl,rfl,rfl⟩
 | v::r,o',w,cur,e,h,hl=>by
  have h0:(w.setCell ⟨b,o',none⟩ v).heap[b]?=some (.cells (cur.setIfInBounds o' v) e (0,0)):=by
   simp[World.setCell,Array.getElem?_modify,h]
  obtain⟨i1,i2,i3,i4,i5,i6⟩:=PI b r (o'+1) (w.setCell ⟨b,o',none⟩ v) (cur.setIfInBounds o' v) e h0 (by simp at hl |-;omega);refine⟨?_,fun k hk=>?_,?_,i4,i5,i6⟩
  ·rw[World.setCells,i1,zipIdx_cons,foldl_cons,Nat.add_zero,I2 (fun (c:Array Value) v n=>c.setIfInBounds (o'+n) v)];congr 3;funext a b;rw[Nat.add_assoc,Nat.add_comm 1]
  ·rw[World.setCells,i2 k hk,Below.heap_setCell _ _ _ _ hk]
  rw[World.setCells,i3];simp
theorem yZ:∀(ds cs:List D) (off:Nat),(dh cs off ds).length=cs.length
 | [],cs,off=>rfl
 | d::ds,cs,off=>by rw[dh,yZ ds];simp
theorem bI.store{w:World}(h:bI C x a w){vs:List Value}(hk:x.S[k]?=some B)(hr:cD w (live C.X x.S) ds vs)(hl:o'+ds.length<=B.cs.length)(hne:isMap B.e=false:=by rfl) :
  bI C ⟨x.n,x.env,x.S.set k {B with cs:=dh B.cs o' ds}⟩ a (w.setCells B.b o' vs)/\mq [B.b] w (w.setCells B.b o' vs)/\Fr w (av x.S) (w.setCells B.b o' vs) (av (x.S.set k {B with cs:=dh B.cs o' ds})):=by
 obtain⟨h0,cur,h1,h2,h3,h4⟩:=h.fJ hk;rw[kM hne] at h1;have qT:vs.length=ds.length:=hr.1;obtain⟨i1,i2,i3,i4,i5,i6⟩:=PI B.b vs o' w cur B.e h1 w4;have eo:k<x.S.length:=(List.getElem?_eq_some_iff.1 hk).1;have wj:x.S[k]=B:=(List.getElem?_eq_some_iff.1 hk).2;have E:av (x.S.set k {B with cs:=dh B.cs o' ds})=av x.S:=by
  unfold av;rw[map_set];apply ext_getElem bq;intro i q1 q2;rw[getElem_set];split
  ·rename_i e;subst e;simp[wj]
  rfl
 have I:live C.X (x.S.set k {B with cs:=dh B.cs o' ds})=live C.X x.S:=(by funext b;simp only[live,E])
 have hB:live C.X x.S B.b:=RL hk;have H:∀b,b<w.heap.size->¬live C.X x.S b->(w.setCells B.b o' vs).heap[b]?=w.heap[b]?/\¬live C.X x.S b:=fun b _ hn=>⟨i2 b (fun e=>hn (e ▸ hB)),hn⟩
 refine⟨⟨h.defers,h.size,fun t ht=>?_,⟨fun B' N5=>?_,?_⟩,?_,h.ex,h.eV⟩,⟨by rw[i3];exact Nat.le_refl _,fun b _ hn=>i2 b (by simpa using hn)⟩,?_⟩
 ·simp only[I];exact(h.env t ht).mono H
 ·simp only[I];obtain⟨j,hj,O⟩:=mem_iff_getElem.1 N5;rw[length_set] at hj;rw[getElem_set] at O;by_cases e:k=j
  ·rw[if_pos e] at O;subst O;refine⟨by rw[i3];exact h0,_,i1.trans (by rw[kM hne]),?_,by simp only[yZ];exact h3,fun i hi=>?_⟩
   ·have:=ET vs.zipIdx cur o';have hlen:=congrArg length this;have ajy:∀(l:List (Value×Nat)) (c:List Value),(l.foldl (fun cs (x:Value×Nat)=>cs.set (o'+x.2) x.1) c).length=c.length:=by
     intro l;induction l with
     | nil=>intro c;rfl
     | cons p l ih=>intro c;rw[foldl_cons,ih];simp
    rw[ajy] at hlen;simp only[Array.length_toList] at hlen;rw[hlen,h2]
   have dy:cD w (live C.X x.S) B.cs (cur.toList.take B.cs.length):=by
    refine⟨by simp;omega,fun i q1 q2=>?_⟩;obtain⟨u,hu,hq⟩:=h4 i q1;have:(cur.toList.take B.cs.length)[i]=u:=by
     rw[getElem_take];rw[<-Array.getElem?_toList,List.getElem?_eq_some_iff] at hu;exact hu.2
    rw[this];exact hq
   have U:=cD.dh ds vs B.cs (cur.toList.take B.cs.length) o' hr dy;have VX:∀(l:List (Value×Nat)) (c:List Value),(∀p∈l,o'+p.2<B.cs.length)->l.foldl (fun cs (x:Value×Nat)=>cs.set (o'+x.2) x.1) (c.take B.cs.length)=(l.foldl (fun cs (x:Value×Nat)=>cs.set (o'+x.2) x.1) c).take B.cs.length:=by
    intro l;induction l with
    | nil=>intro c _;rfl
    | cons p l ih =>
     intro c hp;rw[foldl_cons,foldl_cons,<-ih _ (fun q hq=>hp q (mem_cons_of_mem _ hq)),take_set]
   rw[VX vs.zipIdx cur.toList (fun p hp=>by have:=mem_zipIdx hp;omega),<-ET] at U;simp only at hi;have HJ:=hi;rw[<-U.1] at HJ;have hq:=U.2 i hi HJ;rw[getElem_take] at hq;refine⟨_,?_,hq.mono H⟩;rw[<-Array.getElem?_toList,getElem?_eq_getElem]
  rw[if_neg e] at O;subst O;have hne:x.S[j].b≠B.b:=fun he=>by
   have hn:=h.own.apart;have Dq:(av x.S)[j]'AH=(av x.S)[k]'AF:=(by simp[av,he,wj])
   have hp:=pairwise_iff_getElem.1 hn;rcases Nat.lt_trichotomy j k with Z|Z|Z
   ·exact hp j k AH AF Z Dq
   ·exact e Z.symm
   exact hp k j AF AH Z Dq.symm
  obtain⟨r0,l9,r1,r2,r3,r4⟩:=h.own.at_ x.S[j] (getElem_mem hj);refine⟨by rw[i3];exact r0,l9,(i2 _ hne).trans r1,r2,r3,fun i hi=>?_⟩;obtain⟨u,hu,hq⟩:=r4 i hi;exact⟨u,hu,hq.mono H⟩
 ·simp only[E];exact h.own.apart
 ·refine⟨i4.trans h.fr.os,i5.trans h.fr.tape,i6.trans h.fr.output,by rw[i3];exact h.fr.size,fun b hb hn=>?_⟩;obtain⟨q1,q2⟩:=h.fr.block b hb hn;refine⟨(i2 b (fun e=>q2 (e ▸ mem_map.2 ⟨B,mem_of_getElem? hk,rfl⟩))).trans q1,?_⟩;simp only[E];exact q2
 rw[E];exact⟨i4,i5,i6,by rw[i3];exact Nat.le_refl _,fun b hb hn=>⟨i2 b (fun e=>hn (e ▸ mem_map.2 ⟨B,mem_of_getElem? hk,rfl⟩)),hn⟩⟩
theorem EU {d:D} {z:Operand} (ho:o.op = .store t y z) (jY:o.dst=none) (hy:aG x y = .v (.pointer (some ⟨b,o',none⟩)))
  (hk:x.S[k]?=some B) (hb:B.b=b) (hz:aG x z=d) (hj:d≠.bY) (h1:(cellsOf d).all one=true) (hn:∀w,(sizeOf t).run P w = .ok n w) (gC:(cellsOf d).length=n) (hl:o'+n<=B.cs.length) (dy:dh B.cs o' (cellsOf d)=cs') (hne:isMap B.e=false:=by rfl) :
  fU P G x o [b] (fun y=>y=⟨x.n,x.env,x.S.set k {B with cs:=cs'}⟩):=fun C a w K Q hG h hK=>by
 subst dy hb;have hr:=h.eval z;rw[hz] at hr;have hc:=hr.cells hj;obtain⟨s1,s2,s3⟩:=h.store hk hc (o':=o') w4 hne;obtain⟨h0,cur,q1,q2,q3,q4⟩:=h.fJ hk;rw[kM hne] at q1;have U:(a.eval z).cells.toList.length=n:=(by rw[hc.1,gC])
 have E:=run_storeCells_cells (P:=P) B.b o' (a.eval z).cells.toList 0 w (fun j hj=>by
   have:(o'+0+j)<cur.size:=(by omega)
   rw[oE q1 (u:=cur[o'+0+j]) (by simp[this])];rfl)
  (fun j hj=>by unfold World.frozen?;simp[q1]) (fun v hv=>by
   obtain⟨j,hj,rfl⟩:=mem_iff_getElem.1 hv;have O:j<(cellsOf d).length:=(by rw[<-hc.1];exact hj)
   exact(hc.2 j O hj).BA (all_eq_true.1 h1 _ (getElem_mem O)))
 have I:(execOp a.eval o).run P w = .ok .skip (w.setCells B.b o' (a.eval z).cells.toList):=by
  unfold execOp;have Z:(a.eval z).cells.size=n:=(by simpa using U)
  simp only[Nat.add_zero] at E;simp[ho,h.flat hy,Instr.storeAt,Instr.sureAddr,storeVar,hn,Z,E]
 unfold Oper.wp;rw[I,Oper.upon_skip,jY];exact hK _ _ _ rfl s1 s2 s3

structure HK (G:List (Nat×List Value)) (X:Nat->Prop) (w:World) (S:List ah) (args:List D) (vs:List Value):Prop where
 ex:∀b,X b->b<w.heap.size/\b∉av S
 eV:∀g∈G,(g.1<w.heap.size/\g.1∉av S/\¬X g.1)/\∀i v,g.2[i]?=some v->oG w g.1 i v
 own:Own w (live X S) S
 args:cD w (live X S) args vs
def VC(P:Program)(G:List (Nat×List Value))(f:FuncId)(args:List D)(S:List ah)(post:D->List ah->Prop):Prop :=
 ∀(X:Nat->Prop) (w:World) (vs:List Value),HK G X w S args vs->Calls P f vs.toArray w fun e w'=>∃v r S',e = .returned v/\post r S'/\Own w' (live X S') S'/\cq w' (live X S') r v/\Fr w (av S) w' (av S')
theorem VC.mono{f:FuncId}{args:List D}{S:List ah}{post E:D->List ah->Prop}(h:VC P G f args S post)(k:∀r S',post r S'->E r S'):VC P G f args S E:=fun X w vs hp =>
 (h X w vs hp).mono fun e w' ⟨v,r,S',h1,h2,h3⟩=>⟨v,r,S',h1,k r S' h2,h3⟩
abbrev VP(P:Program)(G:List (Nat×List Value))(f:FuncId)(args:List D)(r:D):Prop:=VC P G f args [] fun r' S'=>r'=r/\S'=[]
theorem y8(hp:S.Perm (Sf++R)):live X S=live (fun b=>X b\/b∈av R) Sf:=by
 funext b;have:(av S).Perm (av Sf++av R):=(by have:=hp.map ah.b;simpa[av] using this)
 have:=this.mem_iff (a:=b);simp only[live,mem_append] at *;rw[this];exact propext ⟨fun h=>by rcases h with h|h|h<;>simp[h],fun h=>by rcases h with (h|h)|h<;>simp[h]⟩
theorem bI.call{w:World}(h:bI C x a w)(hG:C.G=G){f:FuncId}{args:List D}{vs:List Value}(hc:VC P G f args Sf post)(hp:x.S.Perm (Sf++R))(hr:cD w (live C.X x.S) args vs) :
  Calls P f vs.toArray w fun e w'=>∃v r S',e = .returned v/\post r S'/\cq w' (live C.X (S'++R)) r v/\bI C ⟨x.n,x.env,S'++R⟩ a w'/\mq (av Sf) w w'/\Fr w (av x.S) w' (av (S'++R)):=by
 have hb:(av x.S).Perm (av Sf++av R):=(by have:=hp.map ah.b;simpa[av] using this)
 have hL:=y8 (X:=C.X) hp;have hnd:(av Sf++av R).Nodup:=hb.nodup_iff.1 h.own.apart;obtain⟨n1,n2,n3⟩:=nodup_append.1 hnd;have O:∀b,b∈av R->b<w.heap.size:=fun b Dr=>by
  obtain⟨B,hB,rfl⟩:=mem_map.1 Dr;exact(h.own.at_ B (hp.symm.subset (mem_append_right _ hB))).1
 have U:HK G (fun b=>C.X b\/b∈av R) w Sf args vs:=by
  refine⟨fun b hx=>?_,fun g hg=>?_,⟨fun B hB=>?_,n1⟩,?_⟩
  ·rcases hx with hx|hx
   ·obtain⟨q1,q2⟩:=h.ex b hx;exact⟨Nat.lt_of_lt_of_le q1 h.fr.size,fun hm=>(h.fr.block b q1 q2).2 (hb.symm.subset (mem_append_left _ hm))⟩
   exact⟨O b hx,fun hm=>n3 b hm b hx rfl⟩
  ·rw[<-hG] at hg;obtain⟨⟨q1,q2,Z⟩,q4⟩:=h.eV g hg;have q5:=(h.fr.block g.1 q1 q2).2;refine⟨⟨Nat.lt_of_lt_of_le q1 h.fr.size,fun hm=>q5 (hb.symm.subset (mem_append_left _ hm)),fun hx=>?_⟩,fun i v hi=>h.aN hg hi⟩;rcases hx with hx|hx
   ·exact Z hx
   exact q5 (hb.symm.subset (mem_append_right _ hx))
  ·rw[<-hL];exact h.own.at_ B (hp.symm.subset (mem_append_left _ hB))
  rw[<-hL];exact hr
 refine(hc _ w vs U).mono fun e w' ⟨v,r,S',h1,h2,h3,h4,h5⟩=>⟨v,r,S',h1,h2,?_,?_,⟨h5.size,fun b I hn=>(h5.block b I hn).1⟩,?_⟩
 ·have:live C.X (S'++R)=live (fun b=>C.X b\/b∈av R) S':=y8 (Perm.refl _);rw[this];exact h4
 ·have YI:live C.X (S'++R)=live (fun b=>C.X b\/b∈av R) S':=y8 (Perm.refl _);have H:∀b,b<w.heap.size->¬live C.X x.S b->w'.heap[b]?=w.heap[b]?/\¬live C.X (S'++R) b:=fun b aa hn=>by
   rw[hL] at hn;have E:b∉av Sf:=fun hm=>hn (.inr hm);obtain⟨q1,q2⟩:=h5.block b aa E;refine⟨q1,fun hl=>?_⟩;rw[YI] at hl;rcases hl with hl|hl
   ·exact hn (.inl hl)
   exact q2 hl
  refine⟨h.defers,h.size,fun t ht=>(h.env t ht).mono H,⟨fun B hB=>?_,?_⟩,?_,h.ex,h.eV⟩
  ·rcases mem_append.1 hB with hB|hB
   ·have:=h3.at_ B hB;rw[<-YI] at this;exact this
   obtain⟨r0,cur,r1,r2,r3,r4⟩:=h.own.at_ B (hp.symm.subset (mem_append_right _ hB));have Ds:B.b∈av R:=mem_map.2 ⟨B,hB,rfl⟩;have E:B.b∉av Sf:=fun hm=>n3 B.b hm B.b Ds rfl;have hh:=(h5.block B.b r0 E).1;refine⟨rh r0 hh,cur,hh.trans r1,r2,r3,fun i hi=>?_⟩;obtain⟨u,hu,hq⟩:=r4 i hi;exact⟨u,hu,hq.mono H⟩
  ·show(av (S'++R)).Nodup;have:av (S'++R)=av S'++av R:=(by simp[av])
   rw[this];refine nodup_append.2 ⟨h3.apart,n2,fun b iM c aX he=>?_⟩;subst he;have E:b∉av Sf:=fun hm=>n3 b hm b aX rfl;exact(h5.block b (O b aX) E).2 iM
  refine⟨h5.os.trans h.fr.os,h5.tape.trans h.fr.tape,h5.output.trans h.fr.output,Nat.le_trans h.fr.size h5.size,fun b I hn=>?_⟩;obtain⟨q1,q2⟩:=h.fr.block b I hn;have gI:b∉av Sf:=fun hm=>q2 (hb.symm.subset (mem_append_left _ hm));have iO:b∉av R:=fun hm=>q2 (hb.symm.subset (mem_append_right _ hm));obtain⟨Z,q4⟩:=h5.block b (Nat.lt_of_lt_of_le I h.fr.size) gI;refine⟨Z.trans q1,fun hm=>?_⟩;have:av (S'++R)=av S'++av R:=(by simp[av])
  rw[this] at hm;rcases mem_append.1 hm with hm|hm
  ·exact q4 hm
  exact iO hm
 refine⟨h5.os,h5.tape,h5.output,h5.size,fun b I hn=>?_⟩;have gI:b∉av Sf:=fun hm=>hn (hb.symm.subset (mem_append_left _ hm));have iO:b∉av R:=fun hm=>hn (hb.symm.subset (mem_append_right _ hm));obtain⟨Z,q4⟩:=h5.block b I gI;refine⟨Z,fun hm=>?_⟩;have:av (S'++R)=av S'++av R:=(by simp[av])
 rw[this] at hm;rcases mem_append.1 hm with hm|hm
 ·exact q4 hm
 exact iO hm
theorem cD.Mm{w:World}(h:bI C x a w)(dc:List Operand):cD w (live C.X x.S) (dc.map (aG x)) (dc.map a.eval) :=
 ⟨by simp,fun i h1 h2=>by simp only[getElem_map];exact h.eval _⟩
theorem cD.append{w:World}{E:List D}{vs I:List Value}(h:cD w L ds vs)(h':cD w L E I):cD w L (ds++E) (vs++I) :=
 ⟨by simp[h.1,h'.1],fun i h1 h2=>by
  by_cases hi:i<ds.length
  ·rw[getElem_append_left hi,getElem_append_left (by rw[h.1];exact hi)];exact h.2 i _ _
  rw[getElem_append_right w4,getElem_append_right (by rw[h.1];omega)];have:=h.1;simp only[this];exact h'.2 _ _ _⟩
def called(x:St)(t:Nat)(R:List ah)(post:D->List ah->Prop)(y:St):Prop:=∃r S',post r S'/\y=⟨x.n,(t,r)::x.env,S'++R⟩
theorem BB {f t:Nat} {args:List D} (ho:o.op = .call {callee:=.value fo,args:=dc,argTypes:=ts}) (hd:o.dst=some t)
  (hf:fo = .func f) (fy:∀args w,(callFunc f args).run P w = .ok (.enter f args) w) (ha:dc.toList.map (aG x)=args) (hp:x.S.Perm (Sf++R)) (hc:VC P G f args Sf post) :
  fU P G x o (av Sf) (called x t R post):=fun C a w K Q hG h hK=>by
 subst hf ha;have hr:=cD.Mm h dc.toList;have E:(execOp a.eval o).run P w = .ok (.enter f (dc.toList.map a.eval).toArray) w:=by
  unfold execOp;have e:dc.map a.eval=(dc.toList.map a.eval).toArray:=by
   rw[<-Array.toList_map,Array.toArray_toList]
  simp only[ho,resolve,Act.eval,Deferred.ofValue,Sem.run_bind,Sem.run_pure,Result.andThen_ok,invoke,e];simp[fy]
 unfold Oper.wp;rw[E,Oper.upon_enter,hd];refine(h.call hG hc hp hr).mono fun e w' ⟨v,r,S',h1,h2,h3,h4,h5,h6⟩=>?_;subst h1;exact hK _ _ _ ⟨r,S',h2,rfl⟩ (h4.put h3) h5 h6
theorem abD {f t:Nat} {args E:List D} (ho:o.op = .call {callee:=.value fo,args:=dc,argTypes:=ts}) (hd:o.dst=some t)
  (hf:aG x fo = .eI (.func f) E) (fy:∀args w,(callFunc f args).run P w = .ok (.enter f args) w) (ha:dc.toList.map (aG x)++E=args) (hp:x.S.Perm (Sf++R)) (hc:VC P G f args Sf post) :
  fU P G x o (av Sf) (called x t R post):=fun C a w K Q hG h hK=>by
 subst ha;have hr:=cD.Mm h dc.toList;have eY:=h.eval fo;rw[hf] at eY;generalize hg:a.eval fo=u at eY;cases eY with
 | eI _ _ vs hl XV =>
  have I:(execOp a.eval o).run P w = .ok (.enter f (dc.toList.map a.eval++vs).toArray) w:=by
   unfold execOp;have e:dc.map a.eval++vs.toArray=(dc.toList.map a.eval++vs).toArray:=by
    rw[<-append_toArray,<-Array.toList_map,Array.toArray_toList]
   simp only[ho,resolve,hg,Deferred.ofValue,Sem.run_bind,Sem.run_pure,Result.andThen_ok,invoke];simp[fy]
  unfold Oper.wp;rw[I,Oper.upon_enter,hd];refine(h.call hG hc hp (hr.append ⟨hl,XV⟩)).mono fun e w' ⟨v,r,S',h1,h2,h3,h4,h5,h6⟩=>?_;subst h1;exact hK _ _ _ ⟨r,S',h2,rfl⟩ (h4.put h3) h5 h6
theorem uY(hk:S[k]?=some B):S.Perm (B::S.eraseIdx k):=by
 obtain⟨h1,h2⟩:=List.getElem?_eq_some_iff.1 hk;subst h2;clear hk;induction S generalizing k with
 | nil=>simp at h1
 | cons A S ih =>
  cases k with
  | zero=>exact Perm.refl _
  | succ k =>
   have E:k<S.length:=(by simpa using h1)
   rw[eraseIdx_cons_succ];exact((ih E).cons A).trans (Perm.swap _ _ _)
theorem eX(S:List ah):S.Perm ([]++S):=Perm.refl _
theorem mS(hk:S[k]?=some B):S.Perm ([B]++S.eraseIdx k):=uY hk
theorem Jy{k':Nat}{B':ah}(hk:S[k]?=some B)(E:(S.eraseIdx k)[k']?=some B'):S.Perm ([B,B']++(S.eraseIdx k).eraseIdx k'):=(uY hk).trans ((uY E).cons B)
theorem cq.xG{w:World}(h:Own w (live X S) S)(O:∀b,X b->b∉av S)(hk:S[k]?=some B)(hl:B.cs.length=n*sz)(h1:n<=cap)(h2:cap<=maxLen)(hne:isMap B.e=false:=by rfl) :
  cq w (live X (S.eraseIdx k)) (.list sz B.cs n) (.slice (some ⟨B.b,0,none⟩) n cap):=by
 have hm:=mem_of_getElem? hk;obtain⟨r0,cur,r1,r2,U,I⟩:=h.at_ B hm;rw[kM hne] at r1;have E:(av (S.eraseIdx k)).Sublist (av S):=Sublist.map _ (eraseIdx_sublist S k);have hL:¬live X (S.eraseIdx k) B.b:=fun hl=>by
  rcases hl with hl|hl
  ·exact O _ hl (mem_map.2 ⟨B,hm,rfl⟩)
  have hp:(av S).Perm (B.b::av (S.eraseIdx k)):=(by have:=(uY hk).map ah.b;simpa[av] using this)
  have hnd:=hp.nodup_iff.1 h.apart;exact(nodup_cons.1 hnd).1 hl
 refine .list sz B.cs n B.b 0 cap (fun i=>cur.getD i undef) hl h1 h2 r0 hL (fun i hi=>?_) (fun i hi=>?_)
 ·obtain⟨u,hu,_⟩:=I i hi;rw[Nat.zero_add,oE r1 hu];simp[hu]
 obtain⟨u,hu,hq⟩:=I i hi;simp only[Array.getD_eq_getD_getElem?,hu,Option.getD_some];exact hq.mono fun b _ hn=>⟨rfl,fun hl=>hn (hl.imp id fun q=>E.subset q)⟩
theorem bI.AW{w:World}(h:bI C x a w):∀b,C.X b->b∉av x.S:=fun b hb=>(h.fr.block b (h.ex b hb).1 (h.ex b hb).2).2
theorem Wk.vJ{t:Nat}{cs:List D}(hk:S[k]?=some B)(ht:look t l = .v (.slice (some ⟨B.b,0,none⟩) m cap))(dy:B.cs=cs)(hl:cs.length=m*sz)(h1:m<=cap)(h2:cap<=maxLen)(hne:isMap B.e=false:=by rfl) :
  Wk ⟨n,l,S⟩ ⟨n,(t,.list sz cs m)::l,S.eraseIdx k⟩:=fun C a w h=>by
 subst dy;have hd:=Wk.drop n l S (S.eraseIdx k) (eraseIdx_sublist S k) C a w h;refine⟨hd.defers,hd.size,fun i hi=>?_,hd.own,hd.fr,hd.ex,hd.eV⟩;simp only[ga];by_cases e:t=i
 ·subst e;rw[if_pos rfl];have E:=h.env t hi;simp only[ht] at E;rw[E.lj];exact cq.xG h.own h.AW hk hl h1 h2 hne
 rw[if_neg e];exact hd.env i hi
theorem Wk.sA{t:Nat}(ht:look t l = .v (.slice none 0 0)):Wk ⟨n,l,S⟩ ⟨n,(t,.list sz [] 0)::l,S⟩:=fun C a w h=>by
 refine⟨h.defers,h.size,fun i hi=>?_,h.own,h.fr,h.ex,h.eV⟩;simp only[ga];by_cases e:t=i
 ·subst e;rw[if_pos rfl];have E:=h.env t hi;simp only[ht] at E;rw[E.lj];exact .nil sz
 rw[if_neg e];exact h.env i hi
theorem Wk.agC {A:ah} {cs:List D} (hk:S[k]?=some B) (hj:(S.eraseIdx k)[j]?=some A) (hi:A.cs[i]?=some (.v (.slice (some ⟨B.b,0,none⟩) m cap))) (dy:B.cs=cs) (hl:cs.length=m*sz) (h1:m<=cap) (h2:cap<=maxLen)
  (U:A.cs.set i (.list sz cs m)=cs') (hS:(S.eraseIdx k).set j {A with cs:=cs'}=S') (hne:isMap B.e=false:=by rfl):Wk ⟨n,l,S⟩ ⟨n,l,S'⟩:=fun C a w h=>by
 subst dy U hS;have hd:=Wk.drop n l S (S.eraseIdx k) (eraseIdx_sublist S k) C a w h;have Z:=cq.xG h.own h.AW hk hl h1 h2 hne;have mr:=(List.getElem?_eq_some_iff.1 hj).1;have hjA:=(List.getElem?_eq_some_iff.1 hj).2;have E:av ((S.eraseIdx k).set j {A with cs:=A.cs.set i (.list sz B.cs m)})=av (S.eraseIdx k):=by
  unfold av;rw[map_set];apply ext_getElem bq;intro i q1 q2;rw[getElem_set];split
  ·rename_i e;subst e;simp[hjA]
  rfl
 have I:live C.X ((S.eraseIdx k).set j {A with cs:=A.cs.set i (.list sz B.cs m)})=live C.X (S.eraseIdx k):=(by funext b;simp only[live,E])
 refine⟨hd.defers,hd.size,fun t ht=>?_,⟨fun B' N5=>?_,?_⟩,?_,hd.ex,hd.eV⟩
 ·simp only[I];exact hd.env t ht
 ·simp only[I];obtain⟨p,hp,iv⟩:=mem_iff_getElem.1 N5;rw[length_set] at hp;rw[getElem_set] at iv;by_cases e:j=p
  ·rw[if_pos e] at iv;subst iv;obtain⟨r0,cur,r1,r2,r3,r4⟩:=hd.own.at_ A (mem_of_getElem? hj);refine⟨r0,cur,r1,r2,by simpa using r3,fun q hq=>?_⟩;simp only[length_set] at hq;obtain⟨u,hu,O⟩:=r4 q hq;refine⟨u,hu,?_⟩;rw[getElem_set];split
   ·rename_i he;subst he;have:=(List.getElem?_eq_some_iff.1 hi).2;rw[this] at O;rw[O.lj];exact Z
   exact O
  rw[if_neg e] at iv;subst iv;exact hd.own.at_ _ (getElem_mem hp)
 ·simp only[E];exact hd.own.apart
 simp only[E];exact hd.fr

def TN(x:St)(t:Nat)(e:TypeId)(sz len:Nat)(cs:List D)(S:List ah)(y:St):Prop :=
 ∃b cap,len<=cap/\cap<=maxLen/\y=⟨x.n,(t,.v (.slice (some ⟨b,0,none⟩) len cap))::x.env,⟨b,e,cap*sz,cs⟩::S⟩
theorem bI.grown {w:World} (h:bI C x a w) {t g e:Nat} {row:Option Nat} {cs:List D}
  (hS:S.Sublist x.S) (I:∀k,row=some k->k∈av x.S/\k∉av S) (E:w.grownBy w' row) (hg:row=some g\/g=w.heap.size) (aa:g<w'.heap.size)
  (CE:w'.heap[g]?=some (.cells cur e (0,0))) (jh:cur.size=cap*sz) (hl:cs.length<=cap*sz) (hr:∀i (h:i<cs.length),∃u,cur[i]?=some u/\cq w (live C.X x.S) cs[i] u) (hne:isMap e=false:=by rfl) :
  bI C ⟨x.n,(t,.v (.slice (some ⟨g,0,none⟩) m cap))::x.env,⟨g,e,cap*sz,cs⟩::S⟩ (a.put (some t) (.slice (some ⟨g,0,none⟩) m cap)) w'/\mq row.toList w w'/\Fr w (av x.S) w' (av (⟨g,e,cap*sz,cs⟩::S)):=by
 have O:(av S).Sublist (av x.S):=Sublist.map _ hS;have Z:∀b,live C.X x.S b->b<w.heap.size:=fun b hb=>by
  rcases hb with hb|hb
  ·exact Nat.lt_of_lt_of_le (h.ex b hb).1 h.fr.size
  obtain⟨B,hB,rfl⟩:=mem_map.1 hb;exact(h.own.at_ B hB).1
 have hgS:g∉av S:=by
  rcases hg with hg|hg
  ·exact(I g hg).2
  intro hm;have:=Z g (.inr (O.subset hm));omega
 have hgX:¬C.X g:=fun hx=>by
  rcases hg with hg|hg
  ·exact h.AW g hx (I g hg).1
  have:=Z g (.inl hx);omega
 have U:g<w.heap.size->g∈av x.S:=fun aa=>by
  rcases hg with hg|hg
  ·exact(I g hg).1
  omega
 have H:∀b,b<w.heap.size->¬live C.X x.S b->w'.heap[b]?=w.heap[b]?/\¬live C.X (⟨g,e,cap*sz,cs⟩::S) b:=fun b hb hn=>by
  refine⟨E.block b hb (fun hm=>hn (.inr (I b hm.symm).1)),fun hl=>?_⟩;rcases hl with hl|hl
  ·exact hn (.inl hl)
  simp only[av,map_cons,mem_cons] at hl;rcases hl with hl|hl
  ·subst hl;exact hn (.inr (U hb))
  exact hn (.inr (O.subset hl))
 have base:bI C ⟨x.n,x.env,⟨g,e,cap*sz,cs⟩::S⟩ a w':=by
  refine⟨h.defers,h.size,fun t ht=>(h.env t ht).mono H,⟨fun B hB=>?_,?_⟩,?_,h.ex,h.eV⟩
  ·rcases mem_cons.1 hB with rfl|hB
   ·refine⟨aa,cur,CE.trans (by rw[kM hne]),jh,hl,fun i hi=>?_⟩;obtain⟨u,hu,hq⟩:=hr i hi;exact⟨u,hu,hq.mono H⟩
   obtain⟨r0,l9,r1,r2,r3,r4⟩:=h.own.at_ B (hS.subset hB);have Ds:B.b∈av S:=mem_map.2 ⟨B,hB,rfl⟩;have hh:=E.block B.b r0 (fun hm=>(I B.b hm.symm).2 Ds);refine⟨rh r0 hh,l9,hh.trans r1,r2,r3,fun i hi=>?_⟩;obtain⟨u,hu,hq⟩:=r4 i hi;exact⟨u,hu,hq.mono H⟩
  ·show(g::av S).Nodup;exact nodup_cons.2 ⟨hgS,h.own.apart.sublist O⟩
  refine⟨E.os.trans h.fr.os,E.tape.trans h.fr.tape,E.output.trans h.fr.output,Nat.le_trans h.fr.size E.size,fun b hb hn=>?_⟩;obtain⟨q1,q2⟩:=h.fr.block b hb hn;have ke:=Nat.lt_of_lt_of_le hb h.fr.size;refine⟨(E.block b ke (fun hm=>q2 (I b hm.symm).1)).trans q1,fun hm=>?_⟩;simp only[av,map_cons,mem_cons] at hm;rcases hm with hm|hm
  ·subst hm;exact q2 (U ke)
  exact q2 (O.subset hm)
 refine⟨base.put (.v _),⟨E.size,fun b hb hn=>E.block b hb (fun hm=>hn (by rw[<-hm];simp))⟩,⟨E.os,E.tape,E.output,E.size,fun b hb hn=>?_⟩⟩;refine⟨E.block b hb (fun hm=>hn (I b hm.symm).1),fun hm=>?_⟩;simp only[av,map_cons,mem_cons] at hm;rcases hm with hm|hm
 ·subst hm;exact hn (U hb)
 exact hn (O.subset hm)
theorem Bl {s:Operand} {t:Nat} {I:Value} {w:World} (ho:o.op = .call {callee:=.builtin .append,args:=#[s,y],argTypes:=#[t,t]}) (hs:a.eval s=v) (hy:a.eval y=u)
  (E:(Builtin.append_ #[t,t] o.type #[v,u]).run P w = .ok I w'):(execOp a.eval o).run P w = .ok (.value I) w':=by
 unfold execOp;simp[ho,resolve,invoke,builtin,hs,hy,E]
theorem zm{e:Nat}{z:Value}(hi:(P.info? e).map (fun i=>(i.zero,i.size,i.bytes))=some (some z,sz,bytes)):∃i,P.info? e=some i/\i.zero=some z/\i.size=sz/\i.bytes=bytes:=by
 cases h:P.info? e with
 | none=>simp[h] at hi
 | some i=>simp[h] at hi;exact⟨i,rfl,hi⟩
theorem Qb {s:Operand} {t e:Nat} {z:Value} {cs:List D} (ho:o.op = .call {callee:=.builtin .append,args:=#[s,y],argTypes:=#[t,t]}) (hd:o.dst=some tt)
  (ht:P.underlying t=some (.slice e)) (hi:(P.info? e).map (fun i=>(i.zero,i.size,i.bytes))=some (some z,sz,bytes)) (fa:z.cells.size=sz) (jh:0<sz)
  (hs:aG x s = .v (.slice (some ⟨b,0,none⟩) n cap)) (hk:x.S[k]?=some B) (hb:B.b=b) (he:B.e=e) (apD:B.size=cap*sz) (hl:B.cs.length=n*sz) (hn:n<=cap) (Z:cap<=maxLen)
  (hy:aG x y = .list sz cs m) (jm:∀d∈cs,one d=true) (hm:0<m) (ie:n+m<=maxLen) (O:(n+m)*bytes<=140737488355328) (hne:isMap B.e=false:=by rfl) :
  fU P G x o [b] (TN x tt e sz (n+m) (B.cs++cs) (x.S.eraseIdx k)):=fun C a w K Q hG h hK=>by
 subst hb he;obtain⟨i,lC,lP,pI,qo⟩:=zm hi;obtain⟨r0,cur,r1,r2,r3,r4⟩:=h.fJ hk;rw[kM hne] at r1;have hr:=h.eval y;rw[hy] at hr;generalize hg:a.eval y=u at hr;cases hr with
 | mG=>omega
 | list _ _ _ b' o' I f mu q1 q2 ke hL hc AX =>
  have eW:w.ownsRow 0 B.e sz (.slice (some ⟨B.b,0,none⟩) n cap) n (cur.toList.take (n*sz)) :=
   ⟨by simp;omega,.inr ⟨B.b,cap,cur,rfl,Nat.zero_le _,r1,hn,Z,by omega,rfl⟩⟩
  obtain⟨v',w',oh,h2,h3,_,h5⟩:=run_append_own_at (P:=P) w 0 t o.type B.e i z sz bytes ht lC lP pI qo fa jh _ n _ eW ⟨b',o',none⟩ m I ((range cs.length).map f) (by simp[mu]) (fun j u hu=>by
    rw[Addr.add_mid];obtain⟨hj,he⟩:=List.getElem?_eq_some_iff.1 hu;simp only[length_map,length_range] at hj;rw[hc j hj,<-he];simp) (fun u hu=>by
    obtain⟨j,hj,rfl⟩:=mem_map.1 hu;have kD:=mem_range.1 hj;exact(AX j kD).BA (jm _ (getElem_mem kD))) ie O (Nat.zero_le _)
  obtain⟨g,E,rfl,_,aa⟩:=h2.form w4;have h6:(Value.slice (some ⟨B.b,0,none⟩) n cap).ownBlock=some g\/g=w.heap.size:=by
   rcases h5 with h5|h5
   ·exact .inl (by rw[<-h5];rfl)
   right;simpa[Value.ownBlock] using h5
  obtain⟨_,h2⟩:=h2;rcases h2 with ⟨h2,_⟩|⟨g',I,l9,e1,_,e2,e3,e4,e5,e6⟩
  ·cases h2
  have Dt:g=g'/\E=I:=(by simpa using e1)
  obtain⟨rfl,rfl⟩:=Dt;have hlen:(B.cs++cs).length=(n+m)*sz:=(by rw[length_append,hl,mu,Nat.add_mul])
  have N6:(n+m)*sz<=E*sz:=Nat.mul_le_mul_right _ e3;have CE:∀i,i<(n+m)*sz->l9[i]?=(cur.toList.take (n*sz)++(range cs.length).map f)[i]?:=fun i hi=>by
   rw[<-e6,getElem?_take_of_lt hi,Array.getElem?_toList]
  obtain⟨s1,s2,s3⟩:=h.grown (t:=tt) (m:=n+m) (e:=B.e) (sz:=sz) (S:=x.S.eraseIdx k) (cs:=B.cs++cs) (row:=some B.b) (g:=g) (cap:=E) (eraseIdx_sublist _ _) (fun k' qU=>by
    have:B.b=k':=(by simpa using qU)
    subst this;refine⟨mem_map.2 ⟨B,mem_of_getElem? hk,rfl⟩,fun hm=>?_⟩;have hp:(av x.S).Perm (B.b::av (x.S.eraseIdx k)):=(by have:=(uY hk).map ah.b;simpa[av] using this)
    exact(nodup_cons.1 (hp.nodup_iff.1 h.own.apart)).1 hm) h3 h6 aa e2 e5 w4 (fun i hi=>by
    rw[hlen] at hi;rw[CE i hi];by_cases fX:i<n*sz
    ·obtain⟨u,hu,hq⟩:=r4 i w4;refine⟨u,?_,?_⟩
     ·rw[getElem?_append_left iF,getElem?_take_of_lt fX,Array.getElem?_toList,hu]
     rw[getElem_append_left w4];exact hq
    have U:i-n*sz<cs.length:=(by rw[mu];rw[Nat.add_mul] at hi;omega)
    refine⟨f (i-n*sz),?_,?_⟩
    ·rw[getElem?_append_right iF];have:(cur.toList.take (n*sz)).length=n*sz:=(by simp;omega)
     rw[this];simp[U]
    rw[getElem_append_right w4];have:=AX (i-n*sz) U;simp only[hl];exact this) hne
  unfold Oper.wp;rw[Bl (P:=P) ho (h.flat hs) hg oh,Oper.upon_value,hd];exact hK _ _ _ ⟨g,E,e3,e4,rfl⟩ s1 s2 s3
theorem PJ {s:Operand} {t e:Nat} {z:Value} {cs:List D} (ho:o.op = .call {callee:=.builtin .append,args:=#[s,y],argTypes:=#[t,t]}) (hd:o.dst=some tt)
  (ht:P.underlying t=some (.slice e)) (hi:(P.info? e).map (fun i=>(i.zero,i.size,i.bytes))=some (some z,sz,bytes)) (fa:z.cells.size=sz) (jh:0<sz)
  (hs:aG x s = .v (.slice none 0 0)) (hy:aG x y = .list sz cs m) (jm:∀d∈cs,one d=true) (hm:0<m) (ie:m<=maxLen) (O:m*bytes<=140737488355328) (hne:isMap e=false:=by rfl) :
  fU P G x o [] (TN x tt e sz m cs x.S):=fun C a w K Q hG h hK=>by
 obtain⟨i,lC,lP,pI,qo⟩:=zm hi;have hr:=h.eval y;rw[hy] at hr;generalize hg:a.eval y=u at hr;cases hr with
 | mG=>omega
 | list _ _ _ b' o' I f mu q1 q2 ke hL hc U =>
  have eW:w.ownsRow 0 e sz (.slice none 0 0) 0 []:=⟨by simp,.inl ⟨rfl,rfl⟩⟩
  obtain⟨v',w',oh,h2,h3,_,h5⟩:=run_append_own_at (P:=P) w 0 t o.type e i z sz bytes ht lC lP pI qo fa jh _ 0 _ eW ⟨b',o',none⟩ m I ((range cs.length).map f) (by simp[mu]) (fun j u hu=>by
    rw[Addr.add_mid];obtain⟨hj,he⟩:=List.getElem?_eq_some_iff.1 hu;simp only[length_map,length_range] at hj;rw[hc j hj,<-he];simp) (fun u hu=>by
    obtain⟨j,hj,rfl⟩:=mem_map.1 hu;have Z:=mem_range.1 hj;exact(U j Z).BA (jm _ (getElem_mem Z))) (by rw[Nat.zero_add];exact ie) (by rw[Nat.zero_add];exact O) (Nat.zero_le _)
  simp only[Nat.zero_add,nil_append] at h2;obtain⟨g,E,rfl,_,aa⟩:=h2.form w4;have h6:(none:Option Nat)=some g\/g=w.heap.size:=by
   rcases h5 with h5|h5
   ·simp[Value.ownBlock] at h5
   right;simpa[Value.ownBlock] using h5
  obtain⟨_,h2⟩:=h2;rcases h2 with ⟨h2,_⟩|⟨g',I,l9,e1,_,e2,e3,e4,e5,e6⟩
  ·cases h2
  have Dt:g=g'/\E=I:=(by simpa using e1)
  obtain⟨rfl,rfl⟩:=Dt;have N6:m*sz<=E*sz:=Nat.mul_le_mul_right _ e3;obtain⟨s1,s2,s3⟩:=h.grown (t:=tt) (m:=m) (e:=e) (sz:=sz) (S:=x.S) (cs:=cs) (row:=none) (g:=g) (cap:=E) (Sublist.refl _) (fun k' qU=>by cases qU) h3 h6 aa e2 e5 w4 (fun i hi=>by
    refine⟨f i,?_,U i hi⟩;have:l9[i]?=((range cs.length).map f)[i]?:=(by rw[<-e6,getElem?_take_of_lt w4,Array.getElem?_toList])
    rw[this];simp[hi]) hne
  unfold Oper.wp;rw[Bl (P:=P) ho (h.flat hs) hg oh,Oper.upon_value,hd];exact hK _ _ _ ⟨g,E,e3,e4,rfl⟩ s1 s2 s3
theorem PM {s:Operand} {t e:Nat} {cs:List D} (ho:o.op = .call {callee:=.builtin .append,args:=#[s,y],argTypes:=#[t,t]})
  (O:∀w,(underlying t).run P w = .ok (.slice e) w) (E:∀w,(sizeOf e).run P w = .ok sz w) (hs:aG x s = .v (.slice ad n cap)) (hn:n<=cap) (hy:aG x y = .list sz cs 0):bX P G x o .none (.v (.slice ad n cap)):=fun C a w _ h=>by
 refine⟨_,.v _,fun w' _=>?_⟩;have hr:=h.eval y;rw[hy] at hr;generalize hg:a.eval y=u at hr;refine Bl (P:=P) ho (h.flat hs) hg ?_;have U:n+0<=cap:=hn;cases hr with
 | mG _ I kU=>cases I<;>cases ad<;>simp[Builtin.append_,O,E,Builtin.lenOf,Builtin.firstCells,storeCells,loadCells,loadCellsFrom,hn,Nat.not_lt.2 hn]
 | list _ _ _ b' o' kU f mu q1 q2 ke hL hc Z=>cases ad<;>simp[Builtin.append_,O,E,Builtin.lenOf,Builtin.firstCells,storeCells,loadCells,loadCellsFrom,hn,Nat.not_lt.2 hn]

end Go.Proofs.YtbplamgacibdaaaGreatDoor.V
namespace Go.Proofs.YtbplamgacibdaaaGreatDoor.V
open List
open Go.RowKit
variable {g t n:Nat} {E b:Bool} {l':List (Nat×D)} {S':List ah} {c:Code} {ds:List D} {fn:Func} {L:Nat->Prop} {r1:ResultVar}
def LQ(C:dG)(Q:Exit->St->Prop):Exit->Act->World->Prop:=fun e a w=>(∃y,bI C y a w/\Q e y)\/(e = .ret/\C.Dp a w)
def CD(P:Program)(C:dG)(c:Code)(x:St)(Q:Exit->St->Prop):Prop:=∀a w,bI C x a w->c.wp P (LQ C Q) a w
def OD(P:Program)(C:dG)(ops:Array Oper)(l:List Oper)(x:St)(Q:Exit->St->Prop):Prop:=∀a w,bI C x a w->wpList P ops (LQ C Q) l a w
variable {P:Program} {C:dG} {Q:Exit->St->Prop} {x y:St} {ops:Array Oper} {l:List Oper} {o:Oper}
def cj(ops:Array Oper)(x:St)(o:Oper)(b:Bool):Prop:=∀C a w,bI C x a w->Region.wanted o (yielded ops a.tmps)=b
theorem sb(h:o.guard=none):cj ops x o true:=fun C a w _=>by simp[Region.wanted,h]
theorem RM(h:o.guard=some (g,E))(hg:(ops[g]?).bind (·.dst)=some t)(ht:t<x.n)(hb:look t x.env = .v (.bool b)):cj ops x o (b==E):=fun C a w hs=>by
 have I:=hs.env t ht;rw[hb] at I;have I:=I.lj;have O:=hs.size;have:a.tmps[t]?=some (.bool b):=by
  rw[Array.getD_eq_getD_getElem?,Array.getElem?_eq_getElem w4] at I;rw[Array.getElem?_eq_getElem w4];simpa using I
 simp only[Region.wanted,h,yielded,hg,Option.bind_some,this];cases b<;>cases E<;>rfl
theorem fK{d:D}{r:List (Nat×D)}:look t ((t,d)::r)=d:=by rw[ga,if_pos rfl]
theorem gb{d d':D}{r:List (Nat×D)}(h:d=d'):look t ((t,d)::r)=d':=by rw[ga,if_pos rfl,h]
theorem fO{i:Nat}{d d':D}{r:List (Nat×D)}(h:Nat.beq i t=false)(k:look t r=d'):look t ((i,d)::r)=d':=by rw[look,h];exact k
theorem bV{v:Value}{x:St}:aG x (.const v) = .v v:=rfl
theorem tW{f:FuncId}{x:St}:aG x (.func f) = .eI (.func f) []:=rfl
theorem wT{x:St}:aG x (.global g) = .v (.pointer (some ⟨g,0,none⟩)):=rfl
theorem uf{d:D}{x:St}(h:Nat.blt t x.n=true)(k:look t x.env=d):aG x (.tmp t)=d:=by simp only[aG,h,k];rfl
theorem lk{l:List (Nat×D)}{d:D}(h:look t l=d:=by (repeat (first|exact fK|(apply fO;focus rfl)|exact look_nil));first|done|fail):look t l=d:=h
theorem ot{d:D}{x:St}(h:Nat.blt t x.n=true:=by exact rfl)(k:look t x.env=d:=by (repeat (first|exact fK|(apply fO;focus rfl)|exact look_nil));first|done|fail):aG x (.tmp t)=d:=uf h k
def nZ(l:List (Nat×D)):List (Nat×D)->Prop
 | []=>True
 | (i,d)::r=>look i l=d/\nZ l r
theorem nZ.look{l:List (Nat×D)}:∀{l':List (Nat×D)},nZ l l'->∀t,V.look t l'=V.look t l\/V.look t l' = .bY
 | [],_,t=>.inr rfl
 | (i,d)::r,h,t=>by
  rw[ga];by_cases e:i=t
  ·subst e;rw[if_pos rfl];exact .inl h.1.symm
  rw[if_neg e];exact h.2.look t
theorem Wk.kO{l:List (Nat×D)}{S:List ah}(h:nZ l l'):Wk ⟨n,l,S⟩ ⟨n,l',S⟩:=fun C a w hs =>
 ⟨hs.defers,hs.size,fun t ht=>by
  rcases h.look t with e|e
  ·simp only[e];exact hs.env t ht
  simp only[e];exact .bY _,hs.own,hs.fr,hs.ex,hs.eV⟩
theorem Wk.ee{x:St}(hn:x.n=n)(hS:x.S=S')(h:nZ x.env l'):Wk x ⟨n,l',S'⟩:=by
 obtain⟨n0,l0,S0⟩:=x;simp only at hn hS h;subst hn hS;exact Wk.kO h
theorem Wk.asS{x:St}(hn:x.n=n)(hS:S'.Sublist x.S)(h:nZ x.env l'):Wk x ⟨n,l',S'⟩:=by
 obtain⟨n0,l0,S0⟩:=x;simp only at hn hS h;subst hn;exact(Wk.drop n0 l0 S0 S' hS).trans (Wk.kO h)
theorem uh{ops:Array Oper}{x:St}{o:Oper}(h:o.guard=some (g,E))(hg:(ops[g]?).bind (·.dst)=some t)(ht:Nat.blt t x.n=true)(hb:look t x.env = .v (.bool b))(hw:b=E):cj ops x o true:=by
 have:=RM h hg (Nat.le_of_ble_eq_true ht) hb;rw[hw] at this;simpa using this
theorem mT{ops:Array Oper}{x:St}{o:Oper}(h:o.guard=some (g,E))(hg:(ops[g]?).bind (·.dst)=some t)(ht:Nat.blt t x.n=true)(hb:look t x.env = .v (.bool b))(hw:b = !E):cj ops x o false:=by
 have:=RM h hg (Nat.le_of_ble_eq_true ht) hb;rw[hw] at this;cases E<;>simpa using this
theorem J9{ops:Array Oper}{x:St}{o:Oper}{b:Bool}(h:o.guard=some (g,E))(hg:(ops[g]?).bind (·.dst)=some t)(ht:Nat.blt t x.n=true)(hb:look t x.env = .v (.tuple #[])):cj ops x o false:=fun C a w hs=>by
 have I:=hs.env t (Nat.le_of_ble_eq_true ht);rw[hb] at I;have I:=I.lj;have O:=hs.size;have AY:t<x.n:=Nat.le_of_ble_eq_true ht;have:a.tmps[t]?=some (.tuple #[]):=by
  rw[Array.getD_eq_getD_getElem?,Array.getElem?_eq_getElem w4] at I;rw[Array.getElem?_eq_getElem w4];simpa using I
 simp only[Region.wanted,h,yielded,hg,Option.bind_some,this];cases E<;>rfl
theorem OD.nil(h:Q .normal x):OD P C ops [] x Q:=fun a w hs=>.inl ⟨x,hs,h⟩
theorem OD.gj{W:List Nat}{post:St->Prop}(hw:cj ops x o true)(h:fU P C.G x o W post)(k:∀y,post y->OD P C ops l y Q):OD P C ops (o::l) x Q:=fun a w hs=>by
 unfold wpList;rw[if_pos (hw C a w hs)];exact .inl (h C a w _ _ rfl hs fun y a' w' hp E _ _=>k y hp a' w' E)
theorem OD.still{kd:Rd}{d:D}(hw:cj ops x o true)(hd:o.dst=some t)(h:bX P C.G x o kd d)(k:OD P C ops l (x.put t d) Q):OD P C ops (o::l) x Q :=
 OD.gj hw (h.gj hd) fun y hy=>by subst hy;exact k
theorem OD.skip(hw:cj ops x o false)(hd:o.dst=some t)(k:OD P C ops l (x.put t (.v (.tuple #[]))) Q):OD P C ops (o::l) x Q:=fun a w hs=>by
 unfold wpList;rw[if_neg (by rw[hw C a w hs];simp),hd];exact k _ _ (hs.put (.v _))
theorem OD.wk(h:Wk x y)(k:OD P C ops l y Q):OD P C ops l x Q:=fun a w hs=>k a w (h C a w hs)
theorem CD.wk(h:Wk x y)(k:CD P C c y Q):CD P C c x Q:=fun a w hs=>k a w (h C a w hs)
theorem CD.mono{E:Exit->St->Prop}(h:CD P C c x Q)(k:∀e y,Q e y->E e y):CD P C c x E:=fun a w hs =>
 wp_mono (h a w hs) fun e a' w' h=>h.imp (fun ⟨y,h1,h2⟩=>⟨y,h1,k e y h2⟩) id
theorem CD.skip(h:Q .normal x):CD P C .skip x Q:=fun a w hs=>wp_skip (.inl ⟨x,hs,h⟩)
theorem CD.ret(h:Q .ret x):CD P C .ret x Q:=fun a w hs=>wp_ret (.inl ⟨x,hs,h⟩)
theorem CD.exit{id:Nat}(h:Q (.exit id) x):CD P C (.exit id) x Q:=fun a w hs=>wp_exit (.inl ⟨x,hs,h⟩)
def CF(P:Program)(C:dG)(c:Code)(Q:Exit->St->Prop):Exit->St->Prop
 | .normal,y=>CD P C c y Q
 | e,y=>Q e y
theorem CD.seq{c d:Code}(h:CD P C c x (CF P C d Q)):CD P C (.seq c d) x Q:=fun a w hs =>
 wp_seq (wp_mono (h a w hs) fun e a' w' h=>by
  rcases h with ⟨y,h1,h2⟩|⟨rfl,h⟩
  ·cases e<;>first|exact h2 a' w' h1|exact .inl ⟨y,h1,h2⟩
  exact .inr ⟨rfl,h⟩)
theorem CD.region{id:Nat}{l:List Oper}(h:OD P C l.toArray l x Q):CD P C (.region id l.toArray false) x Q:=fun a w hs=>wp_region_lit (h a w hs)
theorem CD.cond{c:Operand}{d e:Code}{b:Bool}(hc:aG x c = .v (.bool b))(ht:b=true->CD P C d x Q)(hf:b=false->CD P C e x Q):CD P C (.cond c d e) x Q:=fun a w hs =>
 wp_cond_split (hs.flat hc) (fun h=>ht h a w hs) (fun h=>hf h a w hs)
theorem CD.ah0{c:Operand}{d e:Code}(hc:aG x c = .v (.bool b))(hb:b=true)(ht:CD P C d x Q):CD P C (.cond c d e) x Q:=fun a w hs =>
 wp_cond_true (by rw[hs.flat hc,hb]) (ht a w hs)
theorem CD.LG{c:Operand}{d e:Code}(hc:aG x c = .v (.bool b))(hb:b=false)(hf:CD P C e x Q):CD P C (.cond c d e) x Q:=fun a w hs =>
 wp_cond_false (by rw[hs.flat hc,hb]) (hf a w hs)
def N7(Inv:St->Prop)(Q:Exit->St->Prop):Exit->St->Prop
 | .normal,y=>∃z,Wk y z/\Inv z
 | e,y=>Q e y
theorem CD.cut{d:Code}(E:St->Prop)(h1:CD P C c x (N7 E Q))(h2:∀z,E z->CD P C d z Q):CD P C (.seq c d) x Q :=
 CD.seq (CD.mono h1 fun e y h=>by cases e<;>first|(obtain⟨z,hw,hz⟩:=h;exact CD.wk hw (h2 z hz))|exact h)
def BO(id:Nat)(Q:Exit->St->Prop):Exit->St->Prop
 | .exit tu,y=>bif Nat.beq tu id then Q .normal y else Q (.exit tu) y
 | e,y=>Q e y
theorem CD.block{id:Nat}{c:Code}(h:CD P C c x (BO id Q)):CD P C (.block id c) x Q:=fun a w hs =>
 wp_block (wp_mono (h a w hs) fun e a' w' h=>by
  rcases h with ⟨y,h1,h2⟩|⟨rfl,h⟩
  case inr=>exact .inr ⟨rfl,h⟩
  cases e with
  | exit tu =>
   simp only[BO] at h2;simp only[Exit.inBlock];by_cases he:tu=id
   ·subst he;rw[if_pos rfl];simp at h2;exact .inl ⟨y,h1,h2⟩
   rw[if_neg he];have:Nat.beq tu id=false:=by
    cases h:Nat.beq tu id with
    | false=>rfl
    | true=>exact absurd (Nat.eq_of_beq_eq_true h) he
   rw[this] at h2;exact .inl ⟨y,h1,h2⟩
  | _=>exact .inl ⟨y,h1,h2⟩)
theorem least(p:Nat->Prop)(h:∃n,p n):∃n,p n/\∀m,p m->n<=m:=by
 obtain⟨n,hn⟩:=h;induction n using Nat.strongRecOn with
 | _ n ih =>
  by_cases hq:∃m,m<n/\p m
  ·obtain⟨m,hm,hp⟩:=hq;exact ih m hm hp
  exact⟨n,hn,fun m hm=>Nat.le_of_not_lt fun aa=>hq ⟨m,aa,hm⟩⟩
def Cf{ι:Type}(I:ι->St->Prop)(μ:ι->Nat)(i:ι)(Q:Exit->St->Prop):Exit->St->Prop
 | .normal,y=>∃j z,μ j < μ i/\Wk y z/\I j z
 | e,y=>Q e y
open Classical in
theorem CD.loop{ι:Type}{c:Code}(I:ι->St->Prop)(μ:ι->Nat)(i:ι)(h0:I i x)(round:∀i y,I i y->CD P C c y (Cf I μ i Q)):CD P C (.loop c) x Q:=fun a w hs=>by
 let p:Act->World->Nat->Prop:=fun a w n=>∃i y,μ i=n/\I i y/\bI C y a w
 let m:Act->World->Nat:=fun a w=>if h:∃n,p a w n then Classical.choose (least _ h) else 0
 refine wp_loop (fun a w=>∃n,p a w n) m ⟨_,i,x,rfl,h0,hs⟩ fun a w O=>?_;have hm:m a w=Classical.choose (least _ O):=dif_pos O;obtain⟨⟨i,y,h1,h2,h3⟩,_⟩:=Classical.choose_spec (least _ O);rw[<-hm] at h1;refine wp_mono (round i y h2 a w h3) fun e a' w' h=>?_;rcases h with ⟨z,q1,q2⟩|⟨rfl,h⟩
 case inr=>exact .inr ⟨rfl,h⟩
 cases e with
 | normal =>
  obtain⟨j,z',r1,r2,Z⟩:=q2;have hp:p a' w' (μ j):=⟨j,z',rfl,Z,r2 C a' w' q1⟩
  have E:∃n,p a' w' n:=⟨_,hp⟩
  have U:m a' w'=Classical.choose (least _ E):=dif_pos E;refine⟨E,?_⟩;have:=(Classical.choose_spec (least _ E)).2 _ hp;rw[U];omega
 | _=>exact .inl ⟨z,q1,q2⟩
def Mn(tmps:Array Value):ResultVar->Sem Value
 | .tmp t=>pure (tmps.getD t undef)
 | .cell a t=>do loadVar t (<-asAddr (tmps.getD a undef))
theorem IK(fn:Func)(tmps:Array Value):results fn tmps=(do let vs <-fn.results.mapM (Mn tmps);pure (if h:vs.size=1 then vs[0] else .tuple vs)):=rfl
def tv(P:Program)(y:St)(rv:ResultVar)(d:D):Prop :=
 ∀C a w,bI C y a w->∃v,cq w (live C.X y.S) d v/\(Mn a.tmps rv).run P w = .ok v w
theorem zn{d:D}(ht:t<y.n)(hd:look t y.env=d):tv P y (.tmp t) d:=fun C a w h=>⟨_,hd ▸ h.env t ht,rfl⟩
theorem so{c k b:Nat}{B:ah}(hc:c<y.n)(hd:look c y.env = .v (.pointer (some ⟨b,0,none⟩)))(hk:y.S[k]?=some B)(hb:B.b=b)(ha:∀w,(isAgg t).run P w = .ok true w)(hn:∀w,(sizeOf t).run P w = .ok n w)(dy:B.cs=ds)(hl:ds.length=n)(hne:isMap B.e=false:=by rfl):tv P y (.cell c t) (.agg ds):=fun C a w h=>by
 subst hb dy;have he:=h.env c hc;rw[hd] at he;obtain⟨_,cur,h1,h2,h3,h4⟩:=h.fJ hk;rw[kM hne] at h1;refine⟨.agg ((range n).map fun j=>cur.getD j undef).toArray,.agg _ _ (by simp[hl]) (fun i q1 q2=>?_),?_⟩
 ·obtain⟨u,hu,hr⟩:=h4 i q1;simp only[getElem_map,getElem_range,Array.getD_eq_getD_getElem?,hu,Option.getD_some];exact hr
 simp only[Mn,he.lj,asAddr,Sem.run_bind,Sem.run_pure,Result.andThen_ok];have:=I1 (P:=P) (t:=t) (w:=w) (b:=B.b) (o':=0) (vs:=(range n).map fun j=>cur.getD j undef) ha hn bq (fun j hj=>by
  simp only[length_map,length_range] at hj;obtain⟨u,hu,_⟩:=h4 j w4;simp only[getElem_map,getElem_range,Array.getD_eq_getD_getElem?,hu,Option.getD_some,Nat.zero_add];exact oE h1 hu)
 simpa[Instr.loadAt,Instr.sureAddr] using this
def tw(P:Program)(fn:Func)(y:St)(r:D):Prop:=∀C a w,bI C y a w->∃v,cq w (live C.X y.S) r v/\(results fn a.tmps).run P w = .ok v w
theorem qz(hr:fn.results = #[]):tw P fn y (.da []):=fun C a w h =>
 ⟨.tuple #[],.da [] [] rfl (fun i h1 _=>by simp at h1),by unfold results;simp[hr]⟩
theorem TO{rv:ResultVar}{d:D}(hr:fn.results = #[rv])(h:tv P y rv d):tw P fn y d:=fun C a w hs=>by
 obtain⟨v,h1,h2⟩:=h C a w hs;refine⟨v,h1,?_⟩;rw[IK,hr];simp[h2]
theorem TP{w:World}{vs:List Value}(h:cD w L ds vs):cq w L (.da ds) (.tuple vs.toArray):=.da ds vs h.1 h.2
theorem cD.cons{w:World}{d:D}{v:Value}{vs:List Value}(h:cq w L d v)(hs:cD w L ds vs):cD w L (d::ds) (v::vs) :=
 ⟨by simp[hs.1],fun i h1 h2=>by
  cases i with
  | zero=>exact h
  | succ i=>exact hs.2 i _ _⟩
theorem cD.nil(w:World)(L:Nat->Prop):cD w L [] []:=⟨rfl,fun i h=>by simp at h⟩
theorem Ka{E:ResultVar}{d1 d2:D}(hr:fn.results = #[r1,E])(h1:tv P y r1 d1)(h2:tv P y E d2):tw P fn y (.da [d1,d2]):=fun C a w hs=>by
 obtain⟨v1,a1,b1⟩:=h1 C a w hs;obtain⟨v2,a2,b2⟩:=h2 C a w hs;refine⟨_,TP (.cons a1 (.cons a2 (.nil _ _))),?_⟩;rw[IK,hr];simp[b1,b2]
theorem abE{E I:ResultVar}{d1 d2 O:D}(hr:fn.results = #[r1,E,I])(h1:tv P y r1 d1)(h2:tv P y E d2)(h3:tv P y I O):tw P fn y (.da [d1,d2,O]):=fun C a w hs=>by
 obtain⟨v1,a1,b1⟩:=h1 C a w hs;obtain⟨v2,a2,b2⟩:=h2 C a w hs;obtain⟨v3,a3,b3⟩:=h3 C a w hs;refine⟨_,TP (.cons a1 (.cons a2 (.cons a3 (.nil _ _)))),?_⟩;rw[IK,hr];simp[b1,b2,b3]
def Body(P:Program)(fn:Func)(post:D->List ah->Prop)(e:Exit)(y:St):Prop :=
 (e = .normal\/e = .ret)/\∃r S',S'.Sublist y.S/\tw P fn y r/\post r S'
def sK:Nat->List D->List (Nat×D)
 | _,[]=>[]
 | i,d::r=>(i,d)::sK (i+1) r
theorem EI:∀(ds:List D) (i t:Nat),look t (sK i ds)=if i<=t then ds.getD (t-i) .bY else .bY
 | [],i,t=>by simp[sK,look]
 | d::r,i,t=>by
  rw[sK,ga,EI r (i+1) t];by_cases h:i=t
  ·subst h;simp
  rw[if_neg h];by_cases h2:i<=t
  ·rw[if_pos h2,if_pos w4,show t-i=(t-(i+1))+1 from by omega];simp
  rw[if_neg h2,if_neg w4]
theorem VC.body {G:List (Nat×List Value)} {f:FuncId} {fn:Func} {c:Code} {n:Nat} {args:List D} {S:List ah} {post:D->List ah->Prop} (hf:P.funcs[f]?=some fn) (hb:fn.body=some c) (hn:fn.ntmps=n) (hl:args.length<=n)
  (h:∀X w0 S0,CD P ⟨X,w0,S0,G,[],fun _ _=>False⟩ c ⟨n,sK 0 args,S⟩ (Body P fn post)):VC P G f args S post:=fun X w vs hp=>by
 have Z:vs.length=args.length:=hp.args.1;let C:dG:=⟨X,w,av S,G,[],fun _ _=>False⟩
 have I:bI C ⟨n,sK 0 args,S⟩ {tmps:=vs.toArray++Array.replicate (fn.ntmps-vs.toArray.size) undef,defers:=[]} w:=by
  refine⟨rfl,by simp[hn];omega,fun t ht=>?_,hp.own,Fr.refl _ _,hp.ex,hp.eV⟩;simp only[EI,Nat.zero_le,if_true,Nat.sub_zero];by_cases aa:t<args.length
  ·have e1:args.getD t .bY=args[t]:=(by simp[getD,aa])
   have e2:(vs.toArray++Array.replicate (fn.ntmps-vs.toArray.size) undef).getD t undef=vs[t]'w4:=by
    rw[Array.getD_eq_getD_getElem?,Array.getElem?_append_left iF];simp[show t<vs.length by omega]
   rw[e1,e2];exact hp.args.2 t aa w4
  have e1:args.getD t .bY = .bY:=(by simp[getD,getElem?_eq_none (show args.length<=t by omega)])
  rw[e1];exact .bY _
 refine calls_of_wp hf hb (wp_mono (h _ _ _ _ _ I) fun e a w' h=>?_);rcases h with ⟨y,h1,h2,r,S',h3,h4,h5⟩|⟨_,h⟩
 case inr=>exact h.elim
 obtain⟨v,q1,q2⟩:=h4 C a w' h1;have E:(av S').Sublist (av y.S):=Sublist.map _ h3;have key:a.defers=[]/\∃v,(results fn a.tmps).run P w' = .ok v w'/\∃U r S',Ending.returned v = .returned U/\post r S'/\Own w' (live X S') S'/\cq w' (live X S') r U/\Fr w (av S) w' (av S') :=
  ⟨h1.defers,v,q2,v,r,S',rfl,h5,h1.own.sub h3,q1.mono fun b _ hn=>⟨rfl,fun hl=>hn (hl.imp id fun q=>E.subset q)⟩,
   ⟨h1.fr.os,h1.fr.tape,h1.fr.output,h1.fr.size,fun b O hn=>⟨(h1.fr.block b O hn).1,fun q=>(h1.fr.block b O hn).2 (E.subset q)⟩⟩⟩
 rcases h2 with rfl|rfl<;>exact key

end Go.Proofs.YtbplamgacibdaaaGreatDoor.V
namespace Go.Proofs.YtbplamgacibdaaaGreatDoor.V
open List
open Go.RowKit
variable {fuel i t:Nat} {ld:Array Bool}
def lm(w1:World)(S1 T:List Nat)(w:World):Prop:=(∀b,b<w1.heap.size->b∉S1->w.heap[b]?=w1.heap[b]?)/\∀b∈T,w.heap[b]?=w1.heap[b]?
def AD(P:Program)(C:dG)(ops:Array Oper)(S1 T:List Nat)(fuel:Nat)(ld:Array Bool)(x:St)(Q:Exit->St->Prop):Prop :=
 ∀w1 a w,bI C x a w->(∀b∈T,b∈S1)->(∀b∈S1,b<w1.heap.size)->Fr w1 S1 w (av x.S)->lm w1 S1 T w->wpAnyH P .any ops (LQ C Q) (lm w1 S1 T) fuel ld a w
def dM(P:Program)(C:dG)(ops:Array Oper)(S1 T:List Nat)(fuel:Nat)(ld:Array Bool)(x:St)(Q:Exit->St->Prop):Prop :=
 ∀a w,bI C x a w->av x.S=S1->(∀b∈T,b∈S1)->wpAnyH P .any ops (LQ C Q) (lm w S1 T) fuel ld a w
def NP(Q:Exit->St->Prop):Prop:=∀c y t,Q (.panic c) y->Q (.panic c) (y.put t .bY)
variable {P:Program} {C:dG} {Q:Exit->St->Prop} {x y:St} {ops:Array Oper} {l:List Oper} {o:Oper} {S1 T:List Nat}
theorem NP.body{fn:Func}{post:D->List ah->Prop}:NP (Body P fn post):=fun E y t hq=>by rcases hq.1 with h|h<;>cases h
def Tl(P:Program)(C:dG)(ops:Array Oper)(l:List Oper)(Q:Exit->St->Prop):Exit->St->Prop
 | .normal,y=>OD P C ops l y Q
 | e,y=>Q e y
theorem lm.refl(E:World)(S1 T:List Nat):lm E S1 T E:=⟨fun _ _ _=>rfl,fun _ _=>rfl⟩
theorem dM.later(hS:av x.S=S1)(h:AD P C ops S1 T fuel ld x Q):dM P C ops S1 T fuel ld x Q:=fun a w hs _ hT =>
 h w a w hs hT (fun b hb=>by
  rw[<-hS] at hb;obtain⟨B,hB,rfl⟩:=mem_map.1 hb;exact(hs.own.at_ B hB).1) (hS ▸ Fr.refl _ _) (lm.refl _ _ _)
def Safe(x:St)(T:List Nat):Rd->Prop
 | .none=>True
 | .kC=>True
 | .fJ k=>∃B,x.S[k]?=some B/\B.b∈T
theorem zL(h:NP Q)(d:Option Nat)(v:Value):∀c a w,LQ C Q (.panic c) (a.put d v) w->LQ C Q (.panic c) a w:=fun c a w hq=>by
 rcases hq with ⟨y,h1,h2⟩|⟨h2,_⟩
 ·cases d with
  | none=>exact .inl ⟨y,h1,h2⟩
  | some t =>
   refine .inl ⟨y.put t .bY,⟨h1.defers,by have E:=h1.size;simp only[Act.put,Array.size_setIfInBounds] at E;exact E,fun q hq=>?_,h1.own,h1.fr,h1.ex,h1.eV⟩,h c y t h2⟩;have h3:=h1.env q hq;simp only[St.put,ga];by_cases e:t=q
   ·rw[if_pos e];exact .bY _
   rw[if_neg e];have:(a.put (some t) v).tmps.getD q undef=a.tmps.getD q undef:=(by simp[Act.put,Array.getD_eq_getD_getElem?,Array.getElem?_setIfInBounds,e])
   rw[this] at h3;exact h3
 cases h2
theorem dM.take {k:Rd} {d:D} (hi:ops[i]?=some o) (hs:Region.noSelect ops=true) (hf:Region.free .any ops ld i=true) (hr:(Region.ready .any ops ld).contains i=true) (hp:NP Q)
  (hw:cj ops x o true) (hd:o.dst=some t) (h:bX P C.G x o k d) (hk:Safe x T k) (K:dM P C ops S1 T fuel (ld.setIfInBounds i true) (x.put t d) Q):dM P C ops S1 T (fuel+1) ld x Q:=fun a w E hS hT=>by
 obtain⟨v,h1,h2⟩:=h C a w rfl E;refine wpAnyH_take hi hs hf hr (zL hp _ v) (.inl ⟨hw C a w E,fun w' I=>h2 w' ?_⟩) (lm.refl _ _ _) ?_
 ·cases k with
  | none=>trivial
  | kC=>exact fun b hb hn=>I.1 b hb (fun hm=>hn (.inr (hS ▸ hm)))
  | fJ k =>
   obtain⟨B,hB,hm⟩:=hk;intro B' O;rw[hB] at O;obtain rfl:=Option.some.inj O;exact I.2 _ hm
 rw[hd];exact K _ _ (E.put h1) hS hT
theorem dM.Jz (hi:ops[i]?=some o) (hs:Region.noSelect ops=true) (hf:Region.free .any ops ld i=true) (hr:(Region.ready .any ops ld).contains i=true) (hp:NP Q)
  (hw:cj ops x o false) (hd:o.dst=some t) (K:dM P C ops S1 T fuel (ld.setIfInBounds i true) (x.put t (.v (.tuple #[]))) Q):dM P C ops S1 T (fuel+1) ld x Q:=fun a w E hS hT=>by
 refine wpAnyH_take (v:=undef) hi hs hf hr (zL hp _ _) (.inr ⟨hw C a w E,rfl⟩) (lm.refl _ _ _) ?_;rw[hd];exact K _ _ (E.put (.v _)) hS hT
theorem AD.take {k:Rd} {d:D} (hi:ops[i]?=some o) (hs:Region.noSelect ops=true) (hf:Region.free .any ops ld i=true) (hr:(Region.ready .any ops ld).contains i=true) (hp:NP Q)
  (hw:cj ops x o true) (hd:o.dst=some t) (h:bX P C.G x o k d) (hk:Safe x T k) (qp:k≠.kC) (K:AD P C ops S1 T fuel (ld.setIfInBounds i true) (x.put t d) Q):AD P C ops S1 T (fuel+1) ld x Q:=fun Z a w E hT aa O eU=>by
 obtain⟨v,h1,h2⟩:=h C a w rfl E;refine wpAnyH_take hi hs hf hr (zL hp _ v) (.inl ⟨hw C a w E,fun w' U=>h2 w' ?_⟩) eU ?_
 ·cases k with
  | none=>trivial
  | kC=>exact absurd rfl qp
  | fJ k =>
   obtain⟨B,hB,hm⟩:=hk;intro B' I;rw[hB] at I;obtain rfl:=Option.some.inj I;exact(U.2 _ hm).trans (eU.2 _ hm).symm
 rw[hd];exact K _ _ _ (E.put h1) hT aa O eU
theorem AD.Jz (hi:ops[i]?=some o) (hs:Region.noSelect ops=true) (hf:Region.free .any ops ld i=true) (hr:(Region.ready .any ops ld).contains i=true) (hp:NP Q)
  (hw:cj ops x o false) (hd:o.dst=some t) (K:AD P C ops S1 T fuel (ld.setIfInBounds i true) (x.put t (.v (.tuple #[]))) Q):AD P C ops S1 T (fuel+1) ld x Q:=fun O a w E hT aa I eU=>by
 refine wpAnyH_take (v:=undef) hi hs hf hr (zL hp _ _) (.inr ⟨hw C a w E,rfl⟩) eU ?_;rw[hd];exact K _ _ _ (E.put (.v _)) hT aa I eU
def bC(P:Program)(C:dG)(ops:Array Oper)(S1 T:List Nat)(fuel:Nat)(ld:Array Bool)(x:St)(Q:Exit->St->Prop)(i:Nat):Prop :=
 ∀w1 a w,bI C x a w->(∀b∈T,b∈S1)->(∀b∈S1,b<w1.heap.size)->Fr w1 S1 w (av x.S)->lm w1 S1 T w ->
  wpOp P ops (LQ C Q) i (fun a' w'=>lm w1 S1 T w'/\wpAnyH P .any ops (LQ C Q) (lm w1 S1 T) fuel (ld.setIfInBounds i true) a' w') a w
theorem AD.all{I:List Nat}(hr:Region.ready .any ops ld=I)(hne:I≠[])(h:∀i∈I,bC P C ops S1 T fuel ld x Q i):AD P C ops S1 T (fuel+1) ld x Q:=fun U a w E hT aa O eU =>
 wpAnyH_all hr hne fun i hi=>h i hi U a w E hT aa O eU
theorem AD.one(hr:Region.ready .any ops ld=[i])(h:bC P C ops S1 T fuel ld x Q i):AD P C ops S1 T (fuel+1) ld x Q :=
 AD.all hr bq fun j hj=>by
  have:j=i:=(by simpa using hj)
  subst this;exact h
theorem AD.two{j:Nat}(hr:Region.ready .any ops ld=[i,j])(h:bC P C ops S1 T fuel ld x Q i)(h':bC P C ops S1 T fuel ld x Q j):AD P C ops S1 T (fuel+1) ld x Q :=
 AD.all hr bq fun k hk=>by
  simp only[mem_cons,not_mem_nil,or_false] at hk;rcases hk with rfl|rfl
  ·exact h
  exact h'
theorem AD.done(hr:Region.ready .any ops ld=[])(h:Q .normal x):AD P C ops S1 T fuel ld x Q:=fun O a w E hT aa I eU=>wpAnyH_done hr (.inl ⟨x,E,h⟩) _
theorem bC.gj {W:List Nat} {post:St->Prop} (hi:ops[i]?=some o) (hw:cj ops x o true) (h:fU P C.G x o W post) (hW:∀C a w,bI C x a w->∀b∈T,b∉W) (hWx:∀b∈W,b∈av x.S)
  (k:∀y,post y->AD P C ops S1 T fuel (ld.setIfInBounds i true) y Q):bC P C ops S1 T fuel ld x Q i:=fun Z a w I hT aa E eU=>by
 unfold wpOp;simp only[hi,hw C a w I,if_true];refine .inl (h C a w _ _ rfl I fun y a' w' hp rT hc hf=>?_);have O:Fr Z S1 w' (av y.S):=⟨hf.os.trans E.os,hf.tape.trans E.tape,hf.output.trans E.output,Nat.le_trans E.size hf.size,fun b hb hn=>by
  obtain⟨q1,q2⟩:=E.block b hb hn;obtain⟨q3,q4⟩:=hf.block b (Nat.lt_of_lt_of_le hb E.size) q2;exact⟨q3.trans q1,q4⟩⟩
 have U:lm Z S1 T w':=⟨fun b hb hn=>(O.block b hb hn).1,fun b hb=>by
  have iM:=Nat.lt_of_lt_of_le (aa b (hT b hb)) E.size;exact(hc.2 b iM (hW C a w I b hb)).trans (eU.2 b hb)⟩
 exact⟨U,k y hp Z a' w' rT hT aa O U⟩
theorem bC.still{kd:Rd}{d:D}(hi:ops[i]?=some o)(hw:cj ops x o true)(hd:o.dst=some t)(h:bX P C.G x o kd d)(k:AD P C ops S1 T fuel (ld.setIfInBounds i true) (x.put t d) Q):bC P C ops S1 T fuel ld x Q i :=
 bC.gj hi hw (h.gj hd) (fun _ _ _ _ b _ hb=>by simp at hb) (fun b hb=>by simp at hb) fun y hy=>by subst hy;exact k
theorem bC.skip(hi:ops[i]?=some o)(hw:cj ops x o false)(hd:o.dst=some t)(k:AD P C ops S1 T fuel (ld.setIfInBounds i true) (x.put t (.v (.tuple #[]))) Q):bC P C ops S1 T fuel ld x Q i:=fun O a w E hT aa I eU=>by
 unfold wpOp;simp only[hi,hw C a w E,hd];exact⟨eU,k O _ w (E.put (.v _)) hT aa I eU⟩
theorem AD.wk(h:Wk x y)(hb:av y.S=av x.S)(k:AD P C ops S1 T fuel ld y Q):AD P C ops S1 T fuel ld x Q:=fun O a w E hT aa I eU=>k O a w (h C a w E) hT aa (hb ▸ I) eU
theorem AD.Cg(h:Wk x y)(hb:∀b∈av y.S,b∈av x.S)(k:AD P C ops S1 T fuel ld y Q):AD P C ops S1 T fuel ld x Q:=fun O a w I hT aa E eU =>
 k O a w (h C a w I) hT aa ⟨E.os,E.tape,E.output,E.size,fun b h1 h2=>⟨(E.block b h1 h2).1,fun h3=>(E.block b h1 h2).2 (hb b h3)⟩⟩ eU
theorem CD.draw{id:Nat}{l:List Oper}(T:List Nat)(hm:P.follows .mixedOrders=true)(hT:∀b∈T,b∈av x.S)(h:dM P C l.toArray (av x.S) T l.toArray.size (Array.replicate l.toArray.size false) x Q):CD P C (.region id l.toArray true) x Q:=fun a w hs =>
 wp_region_held (S:=lm {w with drawn:=w.drawn+1} (av x.S) T) hm (h a _ ⟨hs.defers,hs.size,fun t ht=>(hs.env t ht).mono fun b _ hn=>⟨rfl,hn⟩,⟨fun B hB=>by
  obtain⟨r0,cur,r1,r2,E,I⟩:=hs.own.at_ B hB;exact⟨r0,cur,r1,r2,E,fun i hi=>by
   obtain⟨u,hu,hq⟩:=I i hi;exact⟨u,hu,hq.mono fun b _ hn=>⟨rfl,hn⟩⟩⟩,hs.own.apart⟩,⟨hs.fr.os,hs.fr.tape,hs.fr.output,hs.fr.size,hs.fr.block⟩,hs.ex,hs.eV⟩ rfl hT)

end Go.Proofs.YtbplamgacibdaaaGreatDoor.V

namespace Go.Proofs.YtbplamgacibdaaaGreatDoor.V
open List
open Go.RowKit
variable {P:Program}

variable {t:TypeId} {k:IntKind} {a b:Int} {us:List Value}
theorem Kb{op:BinOp}{r:Int}(h:(op = .add/\k.wrap (a+b)=r)\/(op = .sub/\k.wrap (a-b)=r)\/(op = .mul/\k.wrap (a*b)=r)):kZ P op t (.int k a) (.int k b) (.int k r):=fun y z w=>by
 rcases h with ⟨rfl,h⟩|⟨rfl,h⟩|⟨rfl,h⟩<;>simp[eqGuard,binOp,Op.intArith,h]

theorem kN{r:Int}(h:k.wrap (a+b)=r):kZ P .add t (.int k a) (.int k b) (.int k r):=Kb (.inl ⟨rfl,h⟩)
theorem iI{r:Int}(h:k.wrap (a-b)=r):kZ P .sub t (.int k a) (.int k b) (.int k r):=Kb (.inr (.inl ⟨rfl,h⟩))
theorem Kc{r:Int}(h:k.wrap (a*b)=r):kZ P .mul t (.int k a) (.int k b) (.int k r):=Kb (.inr (.inr ⟨rfl,h⟩))
theorem TQ:kZ P .lss t (.int k a) (.int k b) (.bool (decide (a<b))):=fun y z w=>by simp[eqGuard,binOp,Op.intCmp]
theorem TR:kZ P .leq t (.int k a) (.int k b) (.bool (decide (a<=b))):=fun y z w=>by simp[eqGuard,binOp,Op.intCmp]
theorem TS:kZ P .gtr t (.int k a) (.int k b) (.bool (decide (a>b))):=fun y z w=>by simp[eqGuard,binOp,Op.intCmp]
theorem TT:kZ P .geq t (.int k a) (.int k b) (.bool (decide (a>=b))):=fun y z w=>by simp[eqGuard,binOp,Op.intCmp]
theorem TU:kZ P .eql t (.int k a) (.int k b) (.bool (a==b)):=fun y z w=>by simp[eqGuard,binOp,Op.intCmp]
theorem TV:kZ P .neq t (.int k a) (.int k b) (.bool (a != b)):=fun y z w=>by simp[eqGuard,binOp,Op.intCmp]
theorem ae1{r:Int}(hb:b≠0)(h:k.wrap (a.tdiv b)=r):kZ P .quo t (.int k a) (.int k b) (.int k r):=fun y z w=>by simp[eqGuard,binOp,Op.intDiv,hb,h]
theorem Ke(hb:b≠0):kZ P .rem t (.int k a) (.int k b) (.int k (a.tmod b)):=fun y z w=>by simp[eqGuard,binOp,Op.intDiv,hb]

theorem RN{a b:ByteArray}:kZ P .eql t (.string a) (.string b) (.bool (a.toList==b.toList)):=fun y z w=>by simp[eqGuard,binOp,Op.stringOp]
theorem RO{a b:ByteArray}:kZ P .neq t (.string a) (.string b) (.bool (!(a.toList==b.toList))):=fun y z w=>by simp[eqGuard,binOp,Op.stringOp]
theorem Kf{a b:ByteArray}(h:a.size+b.size<=9223372036854775807):kZ P .add t (.string a) (.string b) (.string (a++b)):=fun y z w=>by
 have:¬(((a.size+b.size:Nat):Int)>IntKind.i64.max):=by
  have:IntKind.i64.max=9223372036854775807:=rfl;omega
 simp only[eqGuard,binOp,Op.stringOp,Sem.run_bind];simp only[this,if_false];simp

theorem Fb{a b:Bool}(E:P.underlying t=some .bool):kZ P .eql t (.bool a) (.bool b) (.bool (a==b)):=fun y z w=>by
 have:binOp .eql t (.bool a) (.bool b)=(do pure (.bool (<-Op.equal t (.bool a) (.bool b)))):=rfl;simp only[eqGuard,this,Sem.run_bind];simp[run_equal_bool w t a b E]
theorem RP{a b:Bool}(E:P.underlying t=some .bool):kZ P .neq t (.bool a) (.bool b) (.bool (!(a==b))):=fun y z w=>by
 have:binOp .neq t (.bool a) (.bool b)=(do pure (.bool (!(<-Op.equal t (.bool a) (.bool b))))):=rfl;simp only[eqGuard,this,Sem.run_bind];simp[run_equal_bool w t a b E]

theorem cq.VY{w:World}{L:Nat->Prop}{v:Value}(h:cq w L (.agg (us.map .v)) v):v = .agg us.toArray:=by
 cases h with
 | agg _ vs hl hr =>
  congr 1;congr 1;refine ext_getElem uI fun i h1 h2=>?_;have:=hr i (by simpa using h2) h1;simp only[getElem_map] at this;exact this.lj

section
variable {G:List (Nat×List Value)} {x:St} {o:Oper}

theorem EQ {t':TypeId} {y z:Operand} {N8:List Value} {r:Bool} (ho:o.op = .binOp .neq t y z t') (hy:aG x y = .agg (us.map .v)) (hz:aG x z = .agg (N8.map .v)) (hg:P.eqGuardType P.depth t=false)
  (hE:∀w,(Op.equalIn 10000 t (.agg us.toArray) (.agg N8.toArray)).run P w = .ok r w):bX P G x o .none (.v (.bool !r)):=fun C a w _ h=>by
 have h1:=h.eval y;have h2:=h.eval z;rw[hy] at h1;rw[hz] at h2;refine⟨_,.v _,fun w' _=>?_⟩;unfold execOp;simp only[ho,h1.VY,h2.VY,Sem.run_bind,run_eqGuard_agg _ _ _ _ _ _ _ hg,Result.andThen_ok,run_neq_struct,hE,Sem.run_pure]

def vA(b:UInt8):D:=.v (.int .u8 (b.toNat:Int))

theorem Z5{s e:TypeId}{y:Operand}{bs:List UInt8}{n:Nat}(ho:o.op = .convert s t y)(hy:aG x y = .list 1 (bs.map vA) n)(hs:P.underlying s=some (.slice e))(he:P.underlying e=some (.int .u8))(ht:P.underlying t=some .string) :
  bX P G x o .kC (.v (.string ⟨bs.toArray⟩)):=fun C a w _ h=>by
 have hr:=h.eval y;rw[hy] at hr;generalize hg:a.eval y=u at hr;generalize dy:bs.map vA=cs at hr;cases hr with
 | mG _ ad cap =>
  have:bs=[]:=(by simpa using dy)
  subst this;refine⟨_,.v _,fun w' _=>?_⟩;unfold execOp;simp only[ho,hg,Sem.run_bind,run_convert_bytes_string w' s t e ad 0 cap hs he ht];cases ad<;>simp[Conv.bytesToString,loadCells,loadCellsFrom]<;>rfl
 | list _ _ _ b I cap g hl q1 q2 hb hL hc O =>
  subst dy;simp only[length_map,Nat.mul_one] at hl hc;refine⟨_,.v _,fun w' hw=>?_⟩;unfold execOp;have E:=run_convert_bytes_back (P:=P) w' s t e ⟨b,I,none⟩ cap bs hs he ht (fun j hj=>by
   rw[Addr.add_mid];have U:=World.cell?_of_block (w:=w) (a:=⟨b,I+j,none⟩) (hw b hb hL);rw[U,hc j hj];have:=O j (by simpa using hj);simp only[getElem_map,vA] at this;rw[this.lj])
  rw[hl] at E;simp only[ho,hg,Sem.run_bind,E,Result.andThen_ok,Sem.run_pure]
end

theorem agD{b:Bool}:∀w,(Op.unary .not (.bool b)).run P w = .ok (.bool !b) w:=fun w=>rfl
theorem K2{r:Int}(h:k.wrap (0-a)=r):∀w,(Op.unary .neg (.int k a)).run P w = .ok (.int k r) w:=fun w=>by
 subst h;rfl

theorem su{s:TypeId}{k':IntKind}{r:Int}{d:TypeDesc}(hs:∀w,(underlying s).run P w = .ok d w)(ht:∀w,(underlying t).run P w = .ok (.int k') w)(h:k'.wrap a=r):∀w,(convert s t (.int k a)).run P w = .ok (.int k' r) w:=fun w=>by
 subst h;simp[convert,hs,ht,Conv.intToInt]

theorem wrap_i64{x:Int}(h1:-9223372036854775808<=x)(h2:x<=9223372036854775807):IntKind.i64.wrap x=x:=IntWalk.i64_in _ w4

theorem agE{ts:Array TypeId}{E:TypeId}:∀cs w,(builtin .min ts E cs #[.int k a,.int k b]).run P w = .ok (.value (.int k (if b<a then b else a))) w:=fun cs w=>by
 simp[builtin,Builtin.min_,Builtin.min2]
theorem nR:(∀{p:Prop} [Decidable p],(decide p=true)=p)/\(∀{p:Prop} [Decidable p],(decide p=false)↔¬p)/\(∀{a b:Int},(a==b)=true↔a=b)/\(∀{a b:Int},(a != b)=true↔a≠b)/\(∀{a b:Bool},(a==b)=true↔a=b)/\(∀{a b:Bool},(a != b)=true↔a≠b)
  /\ (∀{b:Bool},((!b)=true)=(b=false))/\(∀{b:Bool},((!b)=false)=(b=true))/\(∀{b:Bool},(¬b=true)=(b=false))/\(∀{b:Bool},(¬b=false)=(b=true))/\(∀{a b:Int},(a==b)=false↔¬a=b)/\(∀{a b:Int},(a != b)=false↔a=b)/\(∀{a b:Bool},(a==b)=false↔¬a=b)/\(∀{a b:Bool},(a != b)=false↔a=b)
  /\ (∀{a b:Bool},((a&&b)=true)=(a=true/\b=true))/\(∀{a b:Bool},((a||b)=true)=(a=true\/b=true))/\(∀{b:Bool},(!!b)=b)/\(∀{a b:Bool},(a&&b)=false↔a=false\/b=false)/\(∀{a b:Bool},(a||b)=false↔a=false/\b=false)/\(∀{a b:Int},(¬a<b)↔b<=a)/\(∀{a b:Int},(¬a<=b)↔b<a):=by
 refine⟨fun {p} _=>by simp,fun {p} _=>by simp,by simp,by simp,by simp,by simp,by simp,by simp,by simp,by simp,by simp,by simp,by simp,by simp,by simp,by simp,by simp,by simp,by simp,by simp,by simp⟩
end Go.Proofs.YtbplamgacibdaaaGreatDoor.V
