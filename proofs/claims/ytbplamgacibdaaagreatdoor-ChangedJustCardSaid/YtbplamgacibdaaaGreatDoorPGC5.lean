/-
  GC: walks and plain facts, part 5.
-/
import Derived.Test.YtbplamgacibdaaaGreatDoorPGC4
set_option linter.unusedVariables false
set_option linter.unusedSimpArgs false
set_option maxRecDepth 100000
set_option maxHeartbeats 4000000
namespace Go.Proofs.YtbplamgacibdaaaGreatDoor.Nm
open List
open Go.Proofs.Tryz
open Go.RowKit V Pk Vl
variable {h:Int}
def runs:Int->List bf->Option Int
 | h,[]=>some h
 | h,o::r=>if gD h o=0 then runs (h+(1-bU o.k)) r else none
theorem y4:∀(a b:List bf) (h:Int),runs h (a++b)=(runs h a).bind fun h'=>runs h' b
 | [],b,h=>rfl
 | o::r,b,h=>by
  rw[cons_append,runs,runs];split
  ·exact y4 r b _
  rfl
theorem Ql:∀{a:List bf} {h h':Int} (b:List bf),runs h a=some h'->fR h (a++b)=fR h' b
 | [],h,h',b,e=>by cases e;rfl
 | o::r,h,h',b,e=>by
  rw[runs] at e;split at e
  ·rename_i h0;rw[cons_append,fR,if_pos h0];exact Ql b e
  cases e
theorem afw:((⟨#[]⟩:ByteArray).toList==(⟨#[]⟩:ByteArray).toList)=true:=by simp
theorem QT:zeroV bQ=true:=by unfold zeroV bQ;simp
theorem Ss:jn bQ=0:=by decide
theorem adR(n:Int)(s:ByteArray):jn (uw n s)=0:=by
 have h1:=jd n (by decide:(1:Int)<=40);have h2:=jd (cx n 40-20) (by decide:(1:Int)<=2);have hc:(nN (nN s 10) 4).size<=4:=(by rw[I6];omega)
 have he:nN (⟨#[]⟩:ByteArray) 4=ByteArray.empty:=Kg (by rw[QJ];rfl);unfold jn uw pV;split
 ·simp[de,he];omega
 split
 ·simp[de,he];omega
 split
 ·simp[de];omega
 unfold bQ;simp[de,he]
theorem Uk(h0:0<=h)(n:Int)(s:ByteArray):gD h (sI n s)=0:=by
 unfold gD sI;rw[adR];simp[bU];omega
theorem adS(j:Int):cW (sJ j)=0:=by
 unfold sJ;split
 ·exact tQ (l:=[105,100]) w8 w8 w8
 split
 ·exact tQ (l:=[110]) w8 w8 w8
 split
 ·exact tQ (l:=[115]) w8 w8 w8
 exact tQ (l:=[98]) w8 w8 w8
theorem Ul(h0:0<=h)(n:Int):gD h (xC n)=0:=by
 unfold gD xC;rw[Ss,QT,adS];simp[bU];omega
theorem Su{k:Int}(h1:3<=k)(h2:k<=11)(E:bU k<=h):gD h (rz k)=0:=by
 unfold gD rz;simp only[Ss,QT,afw];rw[if_neg w4,if_neg bq,if_neg bq,if_neg w4,if_neg w4]
theorem QU(h0:0<=h)(k n:Int)(s:ByteArray):runs h (mU k n s)=some (h+1):=by
 unfold mU;split
 ·rw[runs,if_pos (Ul h0 n),runs];rfl
 rw[runs,if_pos (Uk h0 n s),runs];rfl
theorem SA:∀(r:Nat) (t:Tw) (h:Int),0<=h->runs h (iq r t)=some (h+1)
 | 0,.mk k n s ts,h,h0=>QU h0 k n s
 | r+1,.mk k n s ts,h,h0=>by
  have E:∀(i:Nat) (h:Int),0<=h->runs h (gX r ts n s i)=some (h+1):=fun i h h0=>by
   unfold gX;split
   ·exact SA r _ h h0
   exact QU h0 _ _ _
  have hk:=jd k (by decide:(1:Int)<=11);rw[wS];split
  ·rw[runs,if_pos (Uk h0 n s),runs];rfl
  split
  ·rw[runs,if_pos (Ul h0 n),runs];rfl
  split
  ·rename_i h3;rw[y4,E 0 h h0,Option.bind_some,runs,if_pos (Su w4 w4 (by unfold bU;rw[if_neg w4,if_pos h3];omega)),runs];unfold rz bU;rw[if_neg (by simp only[];omega),if_pos h3];simp
  rename_i h3;rw[y4,y4,E 0 h h0,Option.bind_some,E 1 (h+1) w4,Option.bind_some,runs,if_pos (Su w4 w4 (by unfold bU;rw[if_neg w4,if_neg h3];omega)),runs];unfold rz bU;rw[if_neg (by simp only[];omega),if_neg h3];congr 1;omega
theorem QV(t:Tw):1<=(iq 3 t).length/\(iq 3 t).length<=15:=by
 have:=Kr 3 t;omega
theorem QW(t:Tw):jk (iq 3 t)=0:=by
 unfold jk;rw[if_neg (by have:=QV t;omega)];have:=Ql [] (SA 3 t 0 (Int.le_refl _));rw[append_nil] at this;rw[this];rfl
theorem adT(t:Tw):∀o∈iq 3 t,o.nm.size<=2:=by
 have hn:∀j:Int,(sJ j).size<=2:=fun j=>by
  unfold sJ;split
  ·decide
  split
  ·decide
  split<;>decide
 have E:∀k n s,∀o∈mU k n s,o.nm.size<=2:=fun k n s o ho=>by
  unfold mU at ho;split at ho<;>(simp only[mem_singleton] at ho;subst ho)
  ·exact hn _
  exact Nat.zero_le _
 have key:∀(r:Nat) (t:Tw),∀o∈iq r t,o.nm.size<=2:=by
  intro r;induction r with
  | zero=>intro t;obtain⟨k,n,s,ts⟩:=t;exact E k n s
  | succ r ih =>
   intro t o ho;obtain⟨k,n,s,ts⟩:=t;have I:∀i:Nat,∀o∈gX r ts n s i,o.nm.size<=2:=fun i o ho=>by
    unfold gX at ho;split at ho
    ·exact ih _ o ho
    exact E _ _ _ o ho
   have hb:∀k,(rz k).nm.size<=2:=fun k=>Nat.zero_le _;rw[wS] at ho;split at ho
   ·simp only[mem_singleton] at ho;subst ho;exact Nat.zero_le _
   split at ho
   ·simp only[mem_singleton] at ho;subst ho;exact hn _
   split at ho
   ·rcases mem_append.1 ho with ho|ho
    ·exact I 0 o ho
    simp only[mem_singleton] at ho;subst ho;exact hb _
   rcases mem_append.1 ho with ho|ho
   ·rcases mem_append.1 ho with ho|ho
    ·exact I 0 o ho
    exact I 1 o ho
   simp only[mem_singleton] at ho;subst ho;exact hb _
 exact key 3 t
theorem adU{l:List bf}(h:∀o∈l,o.nm.size<=2):∀o∈l,o.nm.size<=maxLen:=fun o ho=>Nat.le_trans (h o ho) w8
variable {G:List (Nat×List Value)}
theorem SB{H:Type}{enc:TypeId×Value->H}{w:World}{base:Nat}{sp:Nat->Bool}{held:Bool}:∀n,mI n enc Tryz.prog w base sp held 26 Tw.cs Tw.Ok:=by
 intro n;induction n using Nat.strongRecOn with
 | _ n ih =>
  intro cs x h;obtain⟨⟨k,m,s,ts⟩,h1,h2,h3,h4,h5⟩:=aaY (fuel:=n) (n0:=1) (n1:=1) (n2:=1) (n3:=1) underlying26 aC rfl rfl rfl rfl aC aC aC aC
   (fun q _=>(vq underlying3).at q) (fun q _=>(vq underlying3).at q) (fun q _=>(QD underlying9).at q) (fun q hq=>QH (sz:=4) underlying24 aC w8 (fun z hz=>ih z w4) Tw.F3) cs x h
  refine⟨.mk k m s ts,?_,h2,h3,h4,h5.2,Tw.Ug h5.1⟩;unfold Tw.cs;rw[Tw.K9];exact h1

end Go.Proofs.YtbplamgacibdaaaGreatDoor.Nm
namespace Go.Proofs.YtbplamgacibdaaaGreatDoor.Ex
open List
open Go.Proofs.Tryz
open Go.RowKit V Pk Vl Go.Proofs.YtbplamgacibdaaaGreatDoor.Nm Pc
variable {α:Type} {l:List bf} {i:Nat} {h:Int}
theorem vg(p:α->Bool)(ls:List α):-1<=dK p ls/\dK p ls<ls.length:=by
 unfold dK;cases h:ls.findIdx? p with
 | none=>simp;omega
 | some i=>have:=(findIdx?_eq_some_iff_findIdx_eq.1 h).1;simp;omega
def bE(l:List cy)(nm:ByteArray):Int:=dK (fun c=>c.n.toList==nm.toList) l
def rV(a b:Int):Bool:=a==b||a==0
def okF(k a b:Int):Bool :=
 if k=3\/k=4 then rV a 1&&rV b 1 else if k=5 then rV a 1 else if k=6\/k=7 then rV a b||b==0 else if k=8\/k=9\/k=10 then rV a 2&&rV b 2 else true
def xQ(k:Int):Int:=if k=8\/k=9\/k=10 then 2 else 1
def vr(l:List cy)(nm:ByteArray):Int×Int:=if bE l nm<0 then (0,8) else ((l.getD (bE l nm).toNat ⟨⟨#[]⟩,0⟩).k,0)
def jD(l:List cy)(o:bf)(a b:Int):Int×Int :=
 if o.k=1 then (o.v.k,0) else if o.k=2 then vr l o.nm else if okF o.k a b=true then (xQ o.k,0) else (0,4)
def fp(z:α)(k:Int)(st:List α):α:=if 0<bU k then st.getD (st.length-(bU k).toNat) z else z
def fq(z:α)(k:Int)(st:List α):α:=if 1<bU k then st.getD (st.length-(bU k).toNat+1) z else z
def jX{α:Type}(z:α)(f:bf->α->α->α × Int):List bf->List α->α × Int
 | [],st=>(st.getD 0 z,0)
 | o::r,st =>
  if (f o (fp z o.k st) (fq z o.k st)).2≠0 then (z,(f o (fp z o.k st) (fq z o.k st)).2)
  else jX z f r (st.take (st.length-(bU o.k).toNat)++[(f o (fp z o.k st) (fq z o.k st)).1])
theorem Um{z:α}{f:bf->α->α->α × Int}{st:List α}(hi:i<l.length)(h:(f l[i] (fp z l[i].k st) (fq z l[i].k st)).2≠0) :
  jX z f (l.drop i) st=(z,(f l[i] (fp z l[i].k st) (fq z l[i].k st)).2):=by rw[drop_eq_getElem_cons hi,jX,if_pos h]
theorem Un{z:α}{f:bf->α->α->α × Int}{st:List α}(hi:i<l.length)(h:(f l[i] (fp z l[i].k st) (fq z l[i].k st)).2=0) :
  jX z f (l.drop i) st=jX z f (l.drop (i+1)) (st.take (st.length-(bU l[i].k).toNat)++[(f l[i] (fp z l[i].k st) (fq z l[i].k st)).1]):=by
 rw[drop_eq_getElem_cons hi,jX,if_neg (by rw[h];simp)]
theorem SC{z:α}{f:bf->α->α->α × Int}{st:List α}(hi:¬i<l.length):jX z f (l.drop i) st=(st.getD 0 z,0):=by
 rw[drop_of_length_le w4];rfl
theorem QX(hi:i<l.length)(h0:fR h (l.drop i)=0):gD h l[i]=0/\fR (h+(1-bU l[i].k)) (l.drop (i+1))=0:=by
 rw[drop_eq_getElem_cons hi,fR] at h0;by_cases he:gD h l[i]=0
 ·rw[if_pos he] at h0;exact⟨he,h0⟩
 rw[if_neg he] at h0;exact absurd h0 he
theorem SD(hi:¬i<l.length)(h0:fR h (l.drop i)=0):h=1:=by
 rw[drop_of_length_le w4,fR] at h0;split at h0
 ·assumption
 cases h0
theorem wX{o:bf}(he:gD h o=0):bU o.k<=h/\(1<=o.k/\o.k<=11)/\jn o.v=0/\(o.k=2->cW o.nm=0):=by
 unfold gD at he;split at he
 ·cases he
 split at he
 ·rename_i h2;exact absurd he h2
 split at he
 ·cases he
 split at he
 ·rename_i h4;exact absurd he h4.2
 split at he
 ·cases he
 rename_i q1 q2 I E O;refine⟨by omega,by omega,by simpa using q2,fun hk=>?_⟩;by_cases hn:cW o.nm=0
 ·exact hn
 exact absurd ⟨hk,hn⟩ E
def uq(l:List cy)(ops:List bf):Int×Int:=jX 0 (jD l) ops []
def eu(l:List cy)(ops:List bf):Int×Int:=if fQ l≠0 then (0,fQ l) else if jk ops≠0 then (0,jk ops) else uq l ops
def qc(r:Int×Int):D:=.da [ae r.1,ae r.2]
def cI(n:Int):List D:=[ae n]
theorem eC(n:Int):(cI n).length=1:=rfl
theorem mA(n:Int):(cI n).all V.one=true:=rfl
theorem xn{ops:List bf}(h:jk ops=0):ops.length<=40/\fR 0 ops=0:=by
 unfold jk at h;split at h
 ·cases h
 exact⟨by omega,h⟩
variable {G:List (Nat×List Value)}
theorem Fl(k:Int):VP Tryz.prog G 102 [ae k] (ae (bU k)):=by
 refine VC.body func102 rfl ntmps102 aU fun X0 w0 bj=>?_;exact Yb
theorem abV(c:cy)(nm:ByteArray)(b:Nat):VC Tryz.prog G 134 [.agg (cC c),cY b] [⟨b,9,1,[bg nm]⟩] (fun r S=>r=bP (c.n.toList==nm.toList)/\S=[⟨b,9,1,[bg nm]⟩]):=by
 refine VC.body func134 rfl ntmps134 aU fun X0 w0 bj=>?_;exact YA
theorem pU(l:List cy)(hl:l.length<=6)(nm:ByteArray):VP Tryz.prog G 104 [ap 2 cC l,bg nm] (ae (bE l nm)):=by
 refine VC.body func104 rfl ntmps104 aU fun X0 w0 bj=>?_;refine bS ?_;refine OD.box (ds:=[_]) aq rfl rfl ot rfl rfl (fun b3=>?_);refine an 8 [0,3] ?_;refine aB 1 ?_;refine bN (sy (ds:=[_]) rfl ⟨ot,trivial⟩) ?_;refine OD.call aq rfl rfl rfl call125 (JE l 134 [cY b3] _ (fun c=>c.n.toList==nm.toList) call134 (fun h _=>abV h nm b3) w4) ⟨ot,ot,trivial⟩ (mS (k:=0) rfl) ?_;rintro _ S2 ⟨rfl,iZ⟩;rw[iZ];clear iZ;refine an 8 [4] ?_;exact nP
theorem zK(a b:Int):VP Tryz.prog G 103 [ae a,ae b] (bP (rV a b)):=by
 refine VC.body func103 rfl ntmps103 aU fun X0 w0 bj=>?_;refine af [0,1] ?_;refine aB 4 ?_;refine bZ 8 (fun I E=>?_) (fun I E=>?_)
 ·refine bu [4] ?_;refine eZ ?_;refine⟨vb ?_,rfl⟩;unfold rV;simp_all
 refine bu [4] ?_;refine eZ ?_;refine⟨vb ?_,rfl⟩;unfold rV;simp_all
theorem afx(l:List cy)(hl:l.length<=6)(o:bf)(a b:Int):VP Tryz.prog G 60 [.agg (cO o),ap 2 cC l,ae a,ae b] (qc (jD l o a b)):=by
 refine VC.body func60 rfl ntmps60 aU fun X0 w0 bj=>?_;unfold cO qc;have E:=vg (fun c:cy=>c.n.toList==o.nm.toList) l;have ox:bE l o.nm=dK (fun c:cy=>c.n.toList==o.nm.toList) l:=rfl;rw[<-ox] at E;clear ox;refine bS ?_;refine OD.box (ds:=[_,_,_,_,_]) aq rfl rfl ot rfl rfl (fun b4=>?_);refine an 76 [1,2,3,4] ?_;refine af [1,2,3,4,10] ?_;refine af [1,2,3,4,10,11,12] ?_;refine af [1,2,3,4,10,11,12,15] ?_;refine af [1,2,3,4,10,11,12,15,16] ?_;refine au ?_ ?_<;>intro aJ bz
 ·exact AN
 refine af [1,2,3,4,10,11,12,15,21] ?_;refine au ?_ ?_<;>intro aX cr
 ·refine cL [1,13] (pU l hl o.nm) ?_;refine af [1,13,28] ?_;refine au ?_ ?_<;>intro bL cJ
  ·have dx:vr l o.nm=(0,8):=(by unfold vr;rw[if_pos w4])
   exact AN
  have I:(bE l o.nm).toNat<l.length:=(by omega)
  have dx:vr l o.nm=(l[(bE l o.nm).toNat].k,0):=(by unfold vr;rw[if_neg w4,getD_eq_getElem?_getD,getElem?_eq_getElem I];rfl)
  exact AN
 refine af [2,3,10,11,12,15,34] ?_;refine au ?_ ?_<;>intro cN en
 ·refine eO ?_;exact z130
 refine bM [2,3,10,11,12,15,34] ?_;refine au ?_ ?_<;>intro dW fB
 ·exact z130
 refine af [2,3,10,11,12,15,45] ?_;refine au ?_ ?_<;>intro fF gM
 ·refine dw 2 ?_;refine OD.lY (f:=103) (args:=[_,_]) (all:=[_,_]) (Sf:=[]) aq rfl rfl ot call103 (zK a 1) rfl ⟨ot,bV,trivial⟩ (eX _) ?_;rintro _ _ ⟨rfl,rfl⟩;exact Hz
 refine af [2,3,10,11,12,15,50] ?_;refine au ?_ ?_<;>intro iw U
 ·refine eO ?_;exact WR
 refine bM [2,3,10,11,12,15,50] ?_;refine au ?_ ?_<;>intro iy mF
 ·exact WR
 refine af [2,3,10,11,12,15,61] ?_;refine au ?_ ?_<;>intro qk Z
 ·refine eO ?_;exact Mj
 refine af [2,3,10,11,12,15,61] ?_;refine au ?_ ?_<;>intro uS CP
 ·refine eO ?_;exact Mj
 refine bM [2,3,10,11,12,61] ?_;refine au ?_ ?_<;>intro GR O
 ·exact Mj
 refine af [12,74] ?_;refine gm ?_;refine af [8,9] ?_;refine aK [] ?_;refine⟨?_,rfl⟩;unfold jD okF xQ;simp_all
theorem abW(l:List cy)(hl:l.length<=6)(o:bf)(a b a' I:Int)(ha:a=a')(hb:b=I)(b2:Nat):VC Tryz.prog G 59 [.agg (cO o),ae a',ae I,cY b2] [⟨b2,39,1,[ap 2 cC l]⟩] (fun r S=>r=qc (jD l o a b)/\S=[⟨b2,39,1,[ap 2 cC l]⟩]):=by
 refine VC.body func59 rfl ntmps59 aU fun X0 w0 bj=>?_;subst ha hb;have E:=afx (G:=G) l hl o a b;unfold cO at E |-;unfold qc at E |-;refine bS ?_;refine OD.box (ds:=[_,_,_,_,_]) aq rfl rfl ot rfl rfl (fun O=>?_);refine an 16 [1,2,3,4] ?_;refine cL [7,8] (E) ?_;refine aK [⟨b2,39,1,[ap 2 cC l]⟩] ?_;exact⟨rfl,rfl⟩
theorem abX:(Tryz.prog.info? 3).map (fun i=>(i.zero,i.size,i.bytes))=some (some (.int .i64 0),1,8):=by kernel_rfl
theorem adV(l:List cy)(hl:l.length<=6)(ops:List bf)(qv:ops.length<=40)(hx:fR 0 ops=0)(b2:Nat):VC Tryz.prog G 58 [ap 5 cO ops,.eI (.func 59) [cY b2]] [⟨b2,39,1,[ap 2 cC l]⟩] (fun r S=>r=qc (uq l ops)/\S=[⟨b2,39,1,[ap 2 cC l]⟩]):=by
 refine VC.body func58 rfl ntmps58 aU fun X0 w0 bj=>?_;unfold qc;refine af [0,1] ?_;refine af [0,1,6] ?_;refine bS ?_;refine bu [0,1,6,7] ?_;refine af [1,6,7,16,17,18] ?_;refine CD.block ?_;refine nu (fun (aO:Nat×List Int×Option Addr×Nat×List ah) aE=>match aO with|(i,st,I,E,Sh)=>(i<=ops.length)/\(st.length<=i)/\(fR ((st.length:Nat):Int) (ops.drop i)=0)/\(uq l ops=jX 0 (jD l) (ops.drop i) st)/\(bn 3 1 ((st).flatMap cI) (st).length I E Sh)/\aE=(⟨64,[(1,.eI (.func 59) [cY b2]),(6,ae 0),(7,aT I (st).length E),(16,ap 5 cO ops),(17,ae (ops.length:Nat)),(18,ae (i:Nat))],(⟨b2,39,1,[ap 2 cC l]⟩::Sh)⟩:St)) (fun (aO:Nat×List Int×Option Addr×Nat×List ah)=>match aO with|(i,st,I,E,Sh)=>ops.length-i) (0,[],none,0,[]) ⟨(Nat.zero_le _),(Nat.zero_le _),hx,rfl,(bn.cast iR jZ),rfl⟩ (aI (h:=by repeat (first|exact trivial|refine⟨G8,?_⟩))) ?_;rintro⟨i,st,I,E,Sh⟩ _ ⟨hi,eU,hex,hinv,U,rfl⟩;refine af [1,6,7,16,17,18,19] ?_;refine au ?_ ?_<;>intro aJ bz
 ·have aa:i<ops.length:=(by omega)
  obtain⟨he,yM⟩:=QX aa hex;obtain⟨rS,Xa,yN,gA⟩:=wX he;have DO:=uj ops[i].k;have tJ:(st.take (st.length-(bU ops[i].k).toNat)++[(jD l ops[i] (fp 0 ops[i].k st) (fq 0 ops[i].k st)).1]).length=st.length+1-(bU ops[i].k).toNat:=(by rw[length_append,length_take,length_singleton];omega)
  have oB:fR (((st.take (st.length-(bU ops[i].k).toNat)++[(jD l ops[i] (fp 0 ops[i].k st) (fq 0 ops[i].k st)).1]).length:Nat):Int) (ops.drop (i+1))=0:=(by rw[tJ,show(((st.length+1-(bU ops[i].k).toNat:Nat)):Int)=(st.length:Int)+(1-bU ops[i].k) by omega];exact yM)
  refine aB 2 ?_;refine OD.alloc (ds:=[_,_,_,_,_]) aq rfl rfl zeroValue58 rfl (fun b9=>?_);refine aP 0 [_,_,_,_,_] sizeOf58 ?_;refine an 64 [1,6,7,9,16,17,18] ?_;refine af [1,6,7,9,10,11,16,17,18] ?_;refine cL [1,6,7,9,10,11,12,16,17,18] (Fl ops[i].k) ?_;refine af [1,6,7,9,10,11,12,13,16,17,18] ?_;refine iH [1,6,9,11,12,13,16,17,18] (fun aS _ aE=>∃(va:Int),∃(I:Option Addr),∃(E:Nat),∃(Sh:List ah),(fp 0 ops[i].k st=va)/\(bn 3 1 (st.flatMap cI) st.length I E Sh)/\aE=(⟨64,(7,aT I st.length E)::(10,ae va)::aS,(⟨b9,58,5,[ae ops[i].k,ae ops[i].v.k,ae ops[i].v.n,bg ops[i].v.s,bg ops[i].nm]⟩::⟨b2,39,1,[ap 2 cC l]⟩::Sh)⟩:St)) ?_ ?_
  ·refine af [1,6,7,9,10,11,12,13,16,17,18,30] ?_;refine au ?_ ?_<;>intro aX cr
   ·obtain⟨bh,rfl,Z,O,rfl⟩:=U.pos w4;have uT:(st.length-(bU ops[i].k).toNat)<st.length:=(by omega)
    have ha:fp 0 ops[i].k st=st[(st.length-(bU ops[i].k).toNat)]:=(by unfold fp;rw[if_pos w4,getD_eq_getElem?_getD,getElem?_eq_getElem uT];rfl)
    refine gl [1,6,7,9,10,11,12,13,16,17,18] ?_;refine aR 2 ?_ (h:=by exact(dL 1 (h:=by first|exact .l (j:=(st.length-(bU ops[i].k).toNat)) w4 w4|exact .r (j:=(st.length-(bU ops[i].k).toNat)) w4 w4)));refine aR 0 ?_ (h:=by exact(dz (mk:=Op.load 3) rfl ot (jj (k:=2) eC rfl rfl rfl isAgg3 uT rfl)));refine bA ?_;refine⟨_,aI,(st[(st.length-(bU ops[i].k).toNat)]),(some ⟨bh,0,none⟩),E,[⟨bh,3,E*1,flatMap cI st⟩],ha,(bJ (g:=cI) (ls:=st) Z O),rfl⟩
   have ha:fp 0 ops[i].k st=0:=(by unfold fp;rw[if_neg w4])
   refine CD.skip ?_;refine⟨_,aI,0,I,E,Sh,ha,U,rfl⟩
  rintro _ ⟨va,I,E,Sh,ha,U,rfl⟩;refine iH [1,6,9,10,13,16,17,18] (fun aS _ aE=>∃(vb:Int),∃(I:Option Addr),∃(E:Nat),∃(Sh:List ah),(fq 0 ops[i].k st=vb)/\(bn 3 1 (st.flatMap cI) st.length I E Sh)/\aE=(⟨64,(7,aT I st.length E)::(11,ae vb)::aS,(⟨b9,58,5,[ae ops[i].k,ae ops[i].v.k,ae ops[i].v.n,bg ops[i].v.s,bg ops[i].nm]⟩::⟨b2,39,1,[ap 2 cC l]⟩::Sh)⟩:St)) ?_ ?_
  ·refine af [1,6,7,9,10,11,13,16,17,18,36] ?_;refine au ?_ ?_<;>intro bL cJ
   ·obtain⟨bh,rfl,Z,O,rfl⟩:=U.pos w4;have CR:(st.length-(bU ops[i].k).toNat)+1<st.length:=(by omega)
    have hb:fq 0 ops[i].k st=st[(st.length-(bU ops[i].k).toNat)+1]:=(by unfold fq;rw[if_pos w4,getD_eq_getElem?_getD,getElem?_eq_getElem CR];rfl)
    refine gl [1,6,7,9,10,11,13,16,17,18] ?_;refine aR 3 ?_ (h:=by exact(dL 1 (h:=by first|exact .l (j:=(st.length-(bU ops[i].k).toNat)+1) w4 w4|exact .r (j:=(st.length-(bU ops[i].k).toNat)+1) w4 w4)));refine aR 0 ?_ (h:=by exact(dz (mk:=Op.load 3) rfl ot (jj (k:=2) eC rfl rfl rfl isAgg3 CR rfl)));refine bA ?_;refine⟨_,aI,(st[(st.length-(bU ops[i].k).toNat)+1]),(some ⟨bh,0,none⟩),E,[⟨bh,3,E*1,flatMap cI st⟩],hb,(bJ (g:=cI) (ls:=st) Z O),rfl⟩
   have hb:fq 0 ops[i].k st=0:=(by unfold fq;rw[if_neg w4])
   refine CD.skip ?_;refine⟨_,aI,0,I,E,Sh,hb,U,rfl⟩
  rintro _ ⟨vb,I,E,Sh,hb,U,rfl⟩;refine aB 4 ?_;refine OD.lY (f:=59) (args:=[_,_,_]) (all:=[_,_,_,_]) (Sf:=[⟨b2,39,1,[ap 2 cC l]⟩]) aq rfl rfl ot call59 (abW l hl ops[i] _ _ _ _ ha hb b2) rfl ⟨ot,ot,ot,trivial⟩ (mS (k:=1) rfl) ?_;rintro _ _ ⟨rfl,rfl⟩;refine an 64 [1,6,7,13,14,15,16,17,18] ?_;refine af [1,6,7,13,14,15,16,17,18,51] ?_;refine au ?_ ?_<;>intro cN en
  ·have hz:(jD l ops[i] (fp 0 ops[i].k st) (fq 0 ops[i].k st)).2≠0:=(by simpa using cN)
   have aV:=hinv.trans (Um aa hz);refine af [4,5] ?_;refine aK [⟨b2,39,1,[ap 2 cC l]⟩] ?_;rw[aV];exact⟨rfl,rfl⟩
  have hz:(jD l ops[i] (fp 0 ops[i].k st) (fq 0 ops[i].k st)).2=0:=(by simpa using cN)
  refine CD.skip ?_;refine CD.Ah (k:=(st.length-(bU ops[i].k).toNat)) (ls:=st) (Sq:=Sh) eC w4 U (cZ (A:=[_,_])) (fun MN LN=>?_);refine CD.perm (dU (A:=[_,_])) ?_;refine dw 2 ?_;first|refine bN (ED (n:=st.length) (k:=(take (st.length-(bU ops[i].k).toNat) st).length) (cs:=st.flatMap cI) rfl ot rfl ⟨_,_,ot,by rw[length_take];omega⟩ runUnderlying61 sizeOf3 pC U) ?_|refine OD.still aq rfl (ED (n:=st.length) (k:=(take (st.length-(bU ops[i].k).toNat) st).length) (cs:=st.flatMap cI) rfl ot rfl ⟨_,_,ot,by rw[length_take];omega⟩ runUnderlying61 sizeOf3 pC (bJ (e:=3) (g:=cI) (ls:=st) Z O)) ?_
  refine aH 1 ?_;refine ey (cu 0 [_]) [.int .i64 0] [_] zeroValue3 runUnderlying61 sizeOf3 (fun AP=>?_);refine fD 0 58 1 1 ?_;refine OD.eG (ls:=(take (st.length-(bU ops[i].k).toNat) st)) (new:=[(jD l ops[i] (fp 0 ops[i].k st) (fq 0 ops[i].k st)).1]) (Sq:=MN) eC mA aq rfl rfl underlying61 abX rfl w8 ot LN (cZ (A:=[_,_])) ot bq v7 iF (fun tr sO Cw Cx=>?_);refine OD.perm (dU (S1:=[⟨tr,3,sO*1,flatMap cI ((take (st.length-(bU ops[i].k).toNat) st)++[(jD l ops[i] (fp 0 ops[i].k st) (fq 0 ops[i].k st)).1])⟩]) (A:=[_,_])) ?_;refine an 64 [1,6,7,16,17,18] ?_;refine bM [1,6,7,16,17,18] ?_;refine⟨((i+1),(st.take (st.length-(bU ops[i].k).toNat)++[(jD l ops[i] (fp 0 ops[i].k st) (fq 0 ops[i].k st)).1]),(some ⟨tr,0,none⟩),sO,[⟨tr,3,sO*1,flatMap cI ((take (st.length-(bU ops[i].k).toNat) st)++[(jD l ops[i] (fp 0 ops[i].k st) (fq 0 ops[i].k st)).1])⟩]),_,cn,(aI (h:=by repeat (first|exact trivial|refine⟨G8,?_⟩))),w4,(by rw[tJ];omega),oB,(hinv.trans (Un aa hz)),(bn.cast (bJ Cw Cx) (by rfl)),rfl⟩
 have h1:=SD w4 hex;have CS:0<st.length:=(by omega)
 obtain⟨bh,rfl,Z,O,rfl⟩:=U.pos w4;have aV:=hinv.trans (SC w4);have iW:st.getD 0 0=st[0]:=(by rw[getD_eq_getElem?_getD,getElem?_eq_getElem CS];rfl)
 rw[iW] at aV;refine cz [4,5] ?_;refine aR 1 ?_ (h:=by exact(nV (mk:=Op.indexAddr 61) rfl ot bV (by first|exact oF (j:=0) runUnderlying61 sizeOf3 rfl vZ|exact oI (j:=0) runUnderlying61 sizeOf3 rfl vZ)));refine aR 0 ?_ (h:=by exact(dz (mk:=Op.load 3) rfl ot (jj (k:=1) eC rfl rfl rfl isAgg3 CS rfl)));refine bA ?_;refine aK [⟨b2,39,1,[ap 2 cC l]⟩] ?_;rw[aV];exact⟨rfl,rfl⟩
theorem abY(l:List cy)(hl:l.length<=6)(ops:List bf)(hx:jk ops=0):VP Tryz.prog G 33 [ap 2 cC l,ap 5 cO ops] (qc (uq l ops)):=by
 refine VC.body func33 rfl ntmps33 aU fun X0 w0 bj=>?_;obtain⟨E,iu⟩:=xn hx;have eY:=fun b2=>adV (G:=G) l hl ops E iu b2;unfold qc at eY |-;refine bS ?_;refine OD.box (ds:=[_]) aq rfl rfl ot rfl rfl (fun b2=>?_);refine an 11 [1,2] ?_;refine aB 1 ?_;refine bN (sy (ds:=[_]) rfl ⟨ot,trivial⟩) ?_;refine OD.call aq rfl rfl rfl call58 (eY b2) ⟨ot,ot,trivial⟩ (mS (k:=0) rfl) ?_;rintro _ _ ⟨rfl,rfl⟩;refine an 11 [4,5] ?_;exact nP
theorem ag9(hm:(3,marksC)∈G)(hw:(1,wordsC)∈G)(ht:(0,typesC)∈G)(l:List cy)(hl:l.length<=6)(aW:∀c∈l,c.n.size<=maxLen)(ops:List bf)(ho:∀o∈ops,o.nm.size<=maxLen):VP Tryz.prog G 32 [ap 2 cC l,ap 5 cO ops] (ae (if fQ l≠0 then fQ l else jk ops)):=by
 refine VC.body func32 rfl ntmps32 aU fun X0 w0 bj=>?_;have cR:=dI;refine af [0,1] ?_;refine cL [1,5] (FI hm hw ht l w4 aW) ?_;refine af [1,5,9] ?_;refine au ?_ ?_<;>intro aJ bz
 ·refine af [4] ?_;refine aK [] ?_;refine⟨vi ?_,rfl⟩;simp_all
 refine cL [4] (Km hm hw ops ho) ?_;refine aK [] ?_;refine⟨vi ?_,rfl⟩;simp_all
theorem Ks(hm:(3,marksC)∈G)(hw:(1,wordsC)∈G)(ht:(0,typesC)∈G)(l:List cy)(hl:l.length<=6)(aW:∀c∈l,c.n.size<=maxLen)(ops:List bf)(ho:∀o∈ops,o.nm.size<=maxLen):VP Tryz.prog G 13 [ap 2 cC l,ap 5 cO ops] (qc (eu l ops)):=by
 refine VC.body func13 rfl ntmps13 aU fun X0 w0 bj=>?_;have fw:=ag9 hm hw ht l hl aW ops ho;have E:=fun hx=>abY (G:=G) l hl ops hx;unfold qc at E |-;refine af [0,1] ?_;refine cL [0,1,6] (fw) ?_;refine af [0,1,6,11] ?_;refine au ?_ ?_<;>intro aJ bz
 ·have aV:eu l ops=(0,if fQ l≠0 then fQ l else jk ops):=(by unfold eu;split<;>simp_all)
  refine af [4,5] ?_;exact pG
 have h0:fQ l=0/\jk ops=0:=(by split at aJ<;>simp_all)
 have aV:eu l ops=uq l ops:=(by unfold eu;simp[h0])
 refine cL [4,5] (E h0.2) ?_;exact uL

end Go.Proofs.YtbplamgacibdaaaGreatDoor.Ex
namespace Go.Proofs.YtbplamgacibdaaaGreatDoor.Ex
open List
open Go.Proofs.Tryz
open Go.RowKit V Pk Vl Cd
variable {i:Nat} {a b:Vl} {p:Vl->Prop}
def wr(n:Int):Int:=IntKind.i64.wrap n
theorem ait(n:Int):-9223372036854775808<=wr n/\wr n<=9223372036854775807:=by unfold wr;rw[IntKind.wrap_i64];omega
def qE(b:Bool):Vl:=if b=true then ⟨1,1,⟨#[]⟩⟩ else ⟨1,0,⟨#[]⟩⟩
def jx(a b:Vl)(i:Nat):Vl:=if i=0 then a else b
theorem I7(a b:Vl)(h:i<2):(([ae a.k,ae a.n,bg a.s,ae b.k,ae b.n,bg b.s]:List D).drop (i*3)).take 3=[ae (jx a b i).k,ae (jx a b i).n,bg (jx a b i).s]:=by
 match i,h with
 | 0,_|1,_=>rfl
def lH(a b:Vl)(d:Int):Vl×Int :=
 if (a.k≠1/\a.k≠0)\/(b.k≠1/\b.k≠0) then (bQ,4) else if a.k=1/\a.n=d then (a,0) else if b.k=1/\b.n=d then (b,0) else if a.k=0\/b.k=0 then (bQ,0) else (a,0)
theorem Kt(h:∀j,j<i->p (jx a b j))(hi:2<=i):p a/\p b:=⟨h 0 w4,h 1 w4⟩
theorem Jv(h:∀j,j<i->p (jx a b j))(h1:p (jx a b i)):∀j,j<i+1->p (jx a b j):=fun j hj=>by
 by_cases e:j=i
 ·subst e;exact h1
 exact h j w4
theorem abZ{d:Int}(hi:i<2)(h1:(jx a b i).k≠1)(h2:(jx a b i).k≠0):lH a b d=(bQ,4):=by
 unfold lH;match i,hi with
 | 0,_=>rw[if_pos (.inl ⟨h1,h2⟩)]
 | 1,_=>rw[if_pos (.inr ⟨h1,h2⟩)]
theorem ab0{d:Int}(hi:i<2)(hg:¬((a.k≠1/\a.k≠0)\/(b.k≠1/\b.k≠0)))(h0:∀j,j<i->¬((jx a b j).k=1/\(jx a b j).n=d))(h1:(jx a b i).k=1)(h2:(jx a b i).n=d):lH a b d=(jx a b i,0):=by
 unfold lH;rw[if_neg hg];match i,hi with
 | 0,_=>rw[if_pos ⟨h1,h2⟩];rfl
 | 1,_=>rw[if_neg (show ¬(a.k=1/\a.n=d) from h0 0 w4),if_pos (show b.k=1/\b.n=d from⟨h1,h2⟩)];rfl
def pW(k a b:Int):Int×Bool :=
 if k=8 then (wr (a+b),decide (wr (a+b)<a)==decide (b<0)) else if k=9 then (wr (a-b),decide (wr (a-b)>a)==decide (b<0))
 else (wr (a*b),a==0||(wr ((wr (a*b)).tdiv a)==b && !(a == -1&&b == -9223372036854775808)))
def rE(a b:Vl):Bool:=a.k==0||b.k==0
def iV(k:Int)(a b:Vl):Vl×Int :=
 if mZ a b≠0 then (bQ,mZ a b) else if k=3 then lH a b 0 else if k=4 then lH a b 1
 else if k=6\/k=7 then (if rE a b=true then (bQ,0) else if a.k≠b.k then (bQ,4) else (qE ((jl a b==0&&k==6)||(decide (jl a b<0)&&k==7)),0))
 else if k=8\/k=9\/k=10 then (if (a.k≠2/\a.k≠0)\/(b.k≠2/\b.k≠0) then (bQ,4) else if rE a b=true then (bQ,0) else if (pW k a.n b.n).2=true then (⟨2,(pW k a.n b.n).1,⟨#[]⟩⟩,0) else (bQ,5))
 else (bQ,2)
def ux(k:Int)(a:Vl):Vl×Int :=
 if de a≠0 then (bQ,de a) else if k=11 then (qE (a.k==0),0)
 else if k=5 then (if a.k=0 then (a,0) else if a.k=1 then (qE (a.n==0),0) else (bQ,4)) else (bQ,2)
def nw(r:Vl×Int):D:=.da [.agg (cV r.1),ae r.2]
variable {G:List (Nat×List Value)}
theorem Bz(b:Bool):VP Tryz.prog G 168 [bP b] (.agg (cV (qE b))):=by
 refine VC.body func168 rfl ntmps168 aU fun X0 w0 bj=>?_;refine bS ?_;refine OD.alloc (ds:=[_,_,_]) aq rfl rfl zeroValue56 rfl (fun b2=>?_);refine an 6 [0,2] ?_;refine af [2,3] ?_;refine au ?_ ?_<;>intro aJ bz
 ·refine aB 1 ?_;refine aP 0 [_,_,_] sizeOf56 ?_;refine an 6 [2] ?_;refine aK [] ?_;refine⟨?_,rfl⟩;unfold qE;simp_all[cV]
 refine aB 1 ?_;refine aP 0 [_,_,_] sizeOf56 ?_;refine an 6 [2] ?_;refine aK [] ?_;refine⟨?_,rfl⟩;unfold qE;simp_all[cV]
theorem Uo(a b:Vl):VP Tryz.prog G 170 [.agg (cV a),.agg (cV b)] (bP (rE a b)):=by
 refine VC.body func170 rfl ntmps170 aU fun X0 w0 bj=>?_;unfold cV;refine bS ?_;refine OD.box (ds:=[_,_,_]) aq rfl rfl ot rfl rfl (fun b2=>?_);refine OD.box (ds:=[_,_,_]) aq rfl rfl ot rfl rfl (fun b3=>?_);refine an 13 [2,3] ?_;refine aB 4 ?_;refine bZ 8 (fun I E=>?_) (fun I E=>?_)
 ·refine bu [4] ?_;refine eZ ?_;refine⟨vb ?_,rfl⟩;unfold rE;simp_all
 refine bu [4] ?_;refine eZ ?_;refine⟨vb ?_,rfl⟩;unfold rE;simp_all
theorem SE(a b:Vl)(d:Int):VP Tryz.prog G 169 [.agg (cV a),.agg (cV b),ae d] (nw (lH a b d)):=by
 refine VC.body func169 rfl ntmps169 aU fun X0 w0 bj=>?_;unfold nw cV;have nO:=Uo (G:=G) a b;unfold cV at nO;refine bS ?_;refine OD.box (ds:=[_,_,_]) aq rfl rfl ot rfl rfl (fun b3=>?_);refine OD.box (ds:=[_,_,_]) aq rfl rfl ot rfl rfl (fun b4=>?_);refine OD.alloc (ds:=[_,_,_]) aq rfl rfl zeroValue56 rfl (fun b6=>?_);refine an 50 [2,3,4,6] ?_;refine cz [2,3,4,6,14,15] ?_;refine aR 2 ?_ (h:=Nn);refine bA ?_;refine ew [2,3,4,6,14] (fun aS _ (i:Nat) aE=>(i<=2)/\(∀j,j<i->¬((jx a b j).k≠1/\(jx a b j).k≠0))/\aE=(⟨50,(15,ae (i:Nat))::aS,[⟨b6,56,3,[ae 0,ae 0,gh]⟩,⟨b4,56,3,[ae b.k,ae b.n,bg b.s]⟩,⟨b3,56,3,[ae a.k,ae a.n,bg a.s]⟩]⟩:St)) (fun (i:Nat)=>2-i) 0 ⟨(Nat.zero_le _),(fun j hj=>absurd hj (Nat.not_lt_zero _)),rfl⟩ ?_;rintro i _ ⟨hi,ek,rfl⟩;refine af [2,3,4,6,14,15,16] ?_;refine au ?_ ?_<;>intro aJ bz
 ·have aa:i<2:=(by omega)
  refine bS ?_;refine bN (IC (j:=i) rfl ot ot runUnderlying245 sizeOf56 isAgg56 rfl aa (I7 a b aa)) ?_;refine OD.alloc (ds:=[_,_,_]) aq rfl rfl zeroValue56 rfl (fun b9=>?_);refine aP 0 [_,_,_] sizeOf56 ?_;refine an 50 [2,3,4,6,9,14,15] ?_;refine aB 4 ?_;refine bZ 21 (fun qL I=>?_) (fun qL I=>?_)
  ·refine bu [2,3,4,6,14,15,25] ?_;refine au ?_ ?_<;>intro aX cr
   ·have aV:lH a b d=(bQ,4):=abZ aa (by simp_all) (by simp_all);refine aB 1 ?_;refine aP 1 [_,_,_] sizeOf56 ?_;refine an 50 [6,7] ?_;exact pG
   exact YB
  refine bu [2,3,4,6,14,15,25] ?_;refine gm ?_;exact YB
 have U:=Kt (p:=fun v=>¬(v.k≠1/\v.k≠0)) ek w4;have hg:¬((a.k≠1/\a.k≠0)\/(b.k≠1/\b.k≠0)):=fun h=>h.elim U.1 U.2;clear ek hi;refine cz [2,3,4,6,30,31] ?_;refine aR 2 ?_ (h:=Nn);refine bA ?_;refine ew [2,3,4,6,30] (fun aS _ (i:Nat) aE=>(i<=2)/\(∀j,j<i->¬((jx a b j).k=1/\(jx a b j).n=d))/\aE=(⟨50,(31,ae (i:Nat))::aS,[⟨b6,56,3,[ae 0,ae 0,gh]⟩,⟨b4,56,3,[ae b.k,ae b.n,bg b.s]⟩,⟨b3,56,3,[ae a.k,ae a.n,bg a.s]⟩]⟩:St)) (fun (i:Nat)=>2-i) 0 ⟨(Nat.zero_le _),(fun j hj=>absurd hj (Nat.not_lt_zero _)),rfl⟩ ?_;rintro i _ ⟨lP,LA,rfl⟩;refine af [2,3,4,6,30,31,32] ?_;refine au ?_ ?_<;>intro bL cJ
 ·have aa:i<2:=(by omega)
  refine bS ?_;refine bN (IC (j:=i) rfl ot ot runUnderlying245 sizeOf56 isAgg56 rfl aa (I7 a b aa)) ?_;refine OD.alloc (ds:=[_,_,_]) aq rfl rfl zeroValue56 rfl (fun lS=>?_);refine aP 0 [_,_,_] sizeOf56 ?_;refine an 50 [2,3,4,6,11,30,31] ?_;refine aB 4 ?_;refine bZ 37 (fun Z O=>?_) (fun Z O=>?_)
  ·refine bu [2,3,4,6,11,30,31,42] ?_;refine au ?_ ?_<;>intro cN en
   ·have aV:lH a b d=(jx a b i,0):=ab0 aa hg LA (by simp_all) (by simp_all);refine aB 1 ?_;refine aP 1 [_,_,_] sizeOf56 ?_;refine an 50 [6,7] ?_;exact pG
   exact YE
  refine bu [2,3,4,6,11,30,31,42] ?_;refine gm ?_;exact YE
 have E:=Kt (p:=fun v=>¬(v.k=1/\v.n=d)) LA w4;refine cL [3,6,47] (nO) ?_;refine au ?_ ?_<;>intro dW fB
 ·have aV:lH a b d=(bQ,0):=(by unfold lH;rw[if_neg hg,if_neg E.1,if_neg E.2,if_pos (by unfold rE at dW;simpa using dW)])
  refine aB 1 ?_;refine aP 0 [_,_,_] sizeOf56 ?_;refine an 50 [6,7] ?_;exact pG
 have aV:lH a b d=(a,0):=(by unfold lH;rw[if_neg hg,if_neg E.1,if_neg E.2,if_neg (by unfold rE at dW;simpa using dW)])
 refine aB 1 ?_;refine aP 0 [_,_,_] sizeOf56 ?_;refine an 50 [6,7] ?_;exact uL
theorem adW(k a b:Int):VP Tryz.prog G 171 [ae k,ae a,ae b] (.da [ae (pW k a b).1,bP (pW k a b).2]):=by
 refine VC.body func171 rfl ntmps171 aU fun X0 w0 bj=>?_;refine af [0,1,2] ?_;refine af [1,2,11] ?_;refine af [1,2,11,12] ?_;refine au ?_ ?_<;>intro aJ bz
 ·refine cz [1,2,8] ?_;refine aR 2 ?_ (h:=by exact(dR (r:=.int .i64 (wr (a+b))) rfl ot ot (kN rfl)));exact YD
 refine af [1,2,24] ?_;refine au ?_ ?_<;>intro aX cr
 ·refine cz [1,2,9] ?_;refine aR 2 ?_ (h:=by exact(dR (r:=.int .i64 (wr (a-b))) rfl ot ot (iI rfl)));exact YD
 refine cz [1,2,10] ?_;refine aR 2 ?_ (h:=by exact(dR (r:=.int .i64 (wr (a*b))) rfl ot ot (Kc rfl)));refine bA ?_;refine aB 4 ?_;refine bZ 42 (fun rI E=>?_) (fun rI E=>?_)
 ·refine bu [6,7] ?_;refine N4 ?_;refine⟨?_,rfl⟩;unfold pW;simp_all
 refine aH 2 ?_;refine OD.still iN rfl (dR (r:=.int .i64 (wr ((wr (a*b)).tdiv a))) rfl ot ot (ae1 (by simpa using rI) rfl)) ?_;refine aH 3 ?_;refine bZ 48 (fun U I=>?_) (fun U I=>?_)
 ·refine aH 3 ?_;refine bZ 51 (fun Z O=>?_) (fun Z O=>?_)
  ·refine an 58 [6,7] ?_;refine aK [] ?_;refine⟨?_,rfl⟩;unfold pW;simp_all
  refine an 58 [6,7] ?_;refine aK [] ?_;refine⟨?_,rfl⟩;unfold pW;simp_all
 refine an 58 [6,7] ?_;refine aK [] ?_;refine⟨?_,rfl⟩;unfold pW;simp_all
theorem aha(k:Int)(a:Vl):VP Tryz.prog G 151 [ae k,.agg (cV a)] (nw (ux k a)):=by
 refine VC.body func151 rfl ntmps151 aU fun X0 w0 bj=>?_;unfold nw;have fw:=Vl.pS (G:=G) a;unfold cV at fw;unfold cV;refine bS ?_;refine OD.box (ds:=[_,_,_]) aq rfl rfl ot rfl rfl (fun b3=>?_);refine OD.alloc (ds:=[_,_,_]) aq rfl rfl zeroValue56 rfl (fun E=>?_);refine an 35 [0,3,4] ?_;refine cL [0,3,4,6] (fw) ?_;refine af [0,3,4,6,10] ?_;refine au ?_ ?_<;>intro aJ bz
 ·refine aB 2 ?_;exact z59
 refine af [3,4,13] ?_;refine af [3,4,13,14] ?_;refine au ?_ ?_<;>intro aX cr
 ·refine aB 3 ?_;refine ez call168 (Bz _) ?_;exact z59
 refine af [3,4,20] ?_;refine au ?_ ?_<;>intro bL cJ
 ·refine af [3,4,23] ?_;refine af [3,4,23,24] ?_;refine au ?_ ?_<;>intro cN en
  ·refine aB 1 ?_;exact z59
  refine af [3,4,27] ?_;refine au ?_ ?_<;>intro dW fB
  ·refine aB 3 ?_;refine ez call168 (Bz _) ?_;exact z59
  refine aB 1 ?_;exact z59
 refine aB 1 ?_;refine aP 0 [_,_,_] sizeOf56 ?_;refine an 35 [4,5] ?_;refine aK [] ?_;refine⟨?_,rfl⟩;unfold ux;simp_all[bQ]
theorem afy{k:Int}(h0:mZ a b=0)(hk:k=8\/k=9\/k=10)(hi:i<2)(h1:(jx a b i).k≠2)(h2:(jx a b i).k≠0):iV k a b=(bQ,4):=by
 unfold iV;rw[if_neg (by simp[h0]),if_neg w4,if_neg w4,if_neg w4,if_pos hk];match i,hi with
 | 0,_=>rw[if_pos (.inl ⟨h1,h2⟩)]
 | 1,_=>rw[if_pos (.inr ⟨h1,h2⟩)]
theorem QY{k:Int}(h0:mZ a b=0)(hk:k=8\/k=9\/k=10)(hg:¬((a.k≠2/\a.k≠0)\/(b.k≠2/\b.k≠0))) :
  iV k a b=if rE a b=true then (bQ,0) else if (pW k a.n b.n).2=true then (⟨2,(pW k a.n b.n).1,⟨#[]⟩⟩,0) else (bQ,5):=by
 unfold iV;rw[if_neg (by simp[h0]),if_neg w4,if_neg w4,if_neg w4,if_pos hk,if_neg hg]
theorem ahb(k:Int)(a b:Vl)(oa:a.Ok)(ob:b.Ok):VP Tryz.prog G 152 [ae k,.agg (cV a),.agg (cV b)] (nw (iV k a b)):=by
 refine VC.body func152 rfl ntmps152 aU fun X0 w0 bj=>?_;unfold nw;have qP:=Cd.Ub (G:=G) a b;have nO:=Uo (G:=G) a b;have oX:=SE (G:=G) a b 0;have lN:=SE (G:=G) a b 1;have fw:=Cd.Qh (G:=G) a b oa ob;have Hy:=adW (G:=G) k a.n b.n;unfold nw at oX lN;unfold cV at qP nO oX lN fw;unfold cV;refine bS ?_;refine OD.box (ds:=[_,_,_]) aq rfl rfl ot rfl rfl (fun b4=>?_);refine OD.box (ds:=[_,_,_]) aq rfl rfl ot rfl rfl (fun b5=>?_);refine OD.alloc (ds:=[_,_,_]) aq rfl rfl zeroValue56 rfl (fun b6=>?_);refine an 106 [0,4,5,6] ?_;refine cL [0,4,5,6,8] (qP) ?_;refine af [0,4,5,6,8,18] ?_;refine au ?_ ?_<;>intro aJ bz
 ·have E:mZ a b≠0:=(by simpa using aJ)
  have aV:iV k a b=(bQ,mZ a b):=(by unfold iV;rw[if_pos E])
  refine aB 2 ?_;exact uJ
 have E:mZ a b=0:=(by simpa using aJ)
 refine af [0,4,5,6,21] ?_;refine af [0,4,5,6,21,22] ?_;refine au ?_ ?_<;>intro aX cr
 ·have aV:iV k a b=lH a b 0:=(by unfold iV;rw[if_neg (by simp[E]),if_pos w4])
  refine aB 2 ?_;refine ez call169 (oX) ?_;refine aH 2 ?_;exact uJ
 refine af [0,4,5,6,21,29] ?_;refine au ?_ ?_<;>intro bL cJ
 ·have aV:iV k a b=lH a b 1:=(by unfold iV;rw[if_neg (by simp[E]),if_neg w4,if_pos w4])
  refine aB 2 ?_;refine ez call169 (lN) ?_;refine aH 2 ?_;exact uJ
 refine iH [0,4,5,6,21] (fun aS mQ aE=>∃(q:Bool),(q=true↔k=6\/k=7)/\aE=(⟨106,(36,bP q)::aS,mQ⟩:St)) ?_ ?_
 ·refine af [0,4,5,6,21,36] ?_;refine au ?_ ?_<;>intro cN en
  ·refine CD.skip ?_;exact CA
  refine bM [0,4,5,6,21,36] ?_;exact CA
 rintro _ ⟨q,hq,rfl⟩;refine au ?_ ?_<;>intro dW fB
 ·have aqU:=hq.1 dW;refine cL [0,4,5,6,41] (nO) ?_;refine au ?_ ?_<;>intro fF gM
  ·have aV:iV k a b=(bQ,0):=(by unfold iV;rw[if_neg (by simp[E]),if_neg w4,if_neg w4,if_pos w4,if_pos fF])
   refine aB 1 ?_;exact uJ
  refine af [0,4,5,6,47] ?_;refine au ?_ ?_<;>intro iw oS
  ·have aV:iV k a b=(bQ,4):=(by unfold iV;rw[if_neg (by simp[E]),if_neg w4,if_neg w4,if_pos w4,if_neg (by rw[fF];simp),if_pos (by simpa using iw)])
   refine aB 1 ?_;exact uJ
  have aV:iV k a b=(qE ((jl a b==0&&k==6)||(decide (jl a b<0)&&k==7)),0):=(by unfold iV;rw[if_neg (by simp[E]),if_neg w4,if_neg w4,if_pos w4,if_neg (by rw[fF];simp),if_neg (by simpa using iw)])
  refine cL [0,6,9] (fw) ?_;refine aB 3 ?_;refine bZ 54 (fun As zJ=>?_) (fun As zJ=>?_)
  ·refine aH 4 ?_;refine bZ 58 (fun akM aiu=>?_) (fun akM aiu=>?_)
   ·refine yC 3 ?_;exact z139
   refine aH 3 ?_;refine bZ 61 (fun O I=>?_) (fun O I=>?_)
   ·exact z139
   exact z139
  refine aH 7 ?_;refine bZ 61 (fun O I=>?_) (fun O I=>?_)
  ·exact z139
  exact z139
 have aqV:¬(k=6\/k=7):=fun h=>by rw[hq.2 h] at dW;cases dW
 refine iH [0,4,5,6] (fun aS mQ aE=>∃(q:Bool),(q=true↔k=8\/k=9\/k=10)/\aE=(⟨106,(67,bP q)::aS,mQ⟩:St)) ?_ ?_
 ·refine af [0,4,5,6,21,67] ?_;refine au ?_ ?_<;>intro iy mF
  ·refine CD.skip ?_;exact CA
  refine af [0,4,5,6,21,67] ?_;refine au ?_ ?_<;>intro qk CN
  ·refine CD.skip ?_;exact CA
  refine bM [0,4,5,6,67] ?_;exact CA
 rintro _ ⟨q,Zs,rfl⟩;refine au ?_ ?_<;>intro uS CP
 ·have HX:=Zs.1 uS;refine cz [0,4,5,6,73,74] ?_;refine aR 2 ?_ (h:=Nn);refine bA ?_;refine ew [0,4,5,6,73] (fun aS _ (i:Nat) aE=>(i<=2)/\(∀j,j<i->¬((jx a b j).k≠2/\(jx a b j).k≠0))/\aE=(⟨106,(74,ae (i:Nat))::aS,[⟨b6,56,3,[ae 0,ae 0,gh]⟩,⟨b5,56,3,[ae b.k,ae b.n,bg b.s]⟩,⟨b4,56,3,[ae a.k,ae a.n,bg a.s]⟩]⟩:St)) (fun (i:Nat)=>2-i) 0 ⟨(Nat.zero_le _),(fun j hj=>absurd hj (Nat.not_lt_zero _)),rfl⟩ ?_;rintro i _ ⟨hi,ek,rfl⟩;have HX:k=8\/k=9\/k=10:=(by omega)
  refine af [0,4,5,6,73,74,75] ?_;refine au ?_ ?_<;>intro GR Gm
  ·have aa:i<2:=(by omega)
   refine bS ?_;refine bN (IC (j:=i) rfl ot ot runUnderlying245 sizeOf56 isAgg56 rfl aa (I7 a b aa)) ?_;refine OD.alloc (ds:=[_,_,_]) aq rfl rfl zeroValue56 rfl (fun lS=>?_);refine aP 0 [_,_,_] sizeOf56 ?_;refine an 106 [0,4,5,6,11,73,74] ?_;refine aB 4 ?_;refine bZ 80 (fun MO Gn=>?_) (fun MO Gn=>?_)
   ·refine bu [0,4,5,6,73,74,84] ?_;refine au ?_ ?_<;>intro vH Ga
    ·have aV:iV k a b=(bQ,4):=afy E HX aa (by simp_all) (by simp_all);refine aB 1 ?_;refine aP 1 [_,_,_] sizeOf56 ?_;refine an 106 [6,7] ?_;refine aK [] ?_;rw[aV];first|exact⟨rfl,rfl⟩|(refine⟨?_,rfl⟩;clear aV fw Hy oX lN qP nO;generalize (jl a b==0)=z1 at *;generalize (decide (jl a b<0))=z2 at *;subst_vars;simp_all;done)
    exact z93
   refine bu [0,4,5,6,73,74,84] ?_;refine gm ?_;exact z93
  have Zt:=Kt (p:=fun v=>¬(v.k≠2/\v.k≠0)) ek w4;have OP:=QY E HX (fun h=>h.elim Zt.1 Zt.2);refine cL [0,4,5,6,89] (nO) ?_;refine au ?_ ?_<;>intro U aiv
  ·have aV:iV k a b=(bQ,0):=(by rw[OP,if_pos U])
   refine aB 1 ?_;exact uJ
  refine cL [6,12,13] (Hy) ?_;refine af [6,12,101] ?_;refine au ?_ ?_<;>intro Z aiw
  ·have aV:iV k a b=(bQ,5):=(by rw[OP,if_neg (by rw[U];simp),if_neg (by simpa using Z)])
   refine aB 1 ?_;exact uJ
  have aV:iV k a b=(⟨2,(pW k a.n b.n).1,⟨#[]⟩⟩,0):=(by rw[OP,if_neg (by rw[U];simp),if_pos (by simpa using Z)])
  refine aB 2 ?_;exact uJ
 have hn8:¬(k=8\/k=9\/k=10):=fun h=>by rw[Zs.2 h] at uS;cases uS
 have aV:iV k a b=(bQ,2):=(by unfold iV;rw[if_neg (by simp[E]),if_neg w4,if_neg w4,if_neg w4,if_neg w4])
 refine aB 1 ?_;refine aP 0 [_,_,_] sizeOf56 ?_;refine an 106 [6,7] ?_;refine aK [] ?_;rw[aV];first|exact⟨rfl,rfl⟩|(refine⟨?_,rfl⟩;clear aV fw Hy oX lN qP nO;generalize (jl a b==0)=z1 at *;generalize (decide (jl a b<0))=z2 at *;subst_vars;simp_all;done)

end Go.Proofs.YtbplamgacibdaaaGreatDoor.Ex
namespace Go.Proofs.YtbplamgacibdaaaGreatDoor.Ex
open List
open Go.Proofs.Tryz
open Go.RowKit V Pk Vl Go.Proofs.YtbplamgacibdaaaGreatDoor.Nm Pc
variable {a b:Vl} {l:List cy} {row:List Vl} {ops:List bf}
def gv(l:List cy)(row:List Vl)(o:bf)(a b:Vl):Vl×Int :=
 if bU o.k=1 then ux o.k a else if bU o.k=2 then iV o.k a b else if o.k=2 then (row.getD (bE l o.nm).toNat bQ,0) else (o.v,0)
def vC(l:List cy)(row:List Vl)(ops:List bf):Vl×Int:=jX bQ (gv l row) ops []
def fA(l:List cy)(row:List Vl)(ops:List bf):Vl×Int :=
 if dY l row≠0 then (bQ,dY l row) else if (eu l ops).2≠0 then (bQ,(eu l ops).2) else vC l row ops
theorem ur:bQ.Ok:=⟨by decide,by decide,by decide,by decide,Nat.zero_le _⟩
theorem SF(b:Bool):(qE b).Ok:=by unfold qE;split<;>exact⟨by decide,by decide,by decide,by decide,Nat.zero_le _⟩
theorem ok_int{n:Int}(h:-9223372036854775808<=n/\n<=9223372036854775807):(⟨2,n,⟨#[]⟩⟩:Vl).Ok:=⟨by show -9223372036854775808<=(2:Int);decide,by show(2:Int)<=_;decide,h.1,h.2,Nat.zero_le _⟩
theorem adX{d:Int}(oa:a.Ok)(ob:b.Ok):(lH a b d).1.Ok:=by
 unfold lH;repeat' split
 all_goals first|exact ur|exact oa|exact ob
theorem ok_two{k:Int}(oa:a.Ok)(ob:b.Ok):(iV k a b).1.Ok:=by
 unfold iV;repeat' split
 all_goals first|exact ur|exact adX oa ob|exact SF _|skip
 unfold pW;repeat' split
 all_goals exact ok_int (ait _)
theorem ok_one{k:Int}(oa:a.Ok):(ux k a).1.Ok:=by
 unfold ux;repeat' split
 all_goals first|exact ur|exact oa|exact SF _
theorem Up(hr:∀v∈row,v.Ok){o:bf}(ho:o.v.Ok)(oa:a.Ok)(ob:b.Ok):(gv l row o a b).1.Ok:=by
 unfold gv;split
 ·exact ok_one oa
 split
 ·exact ok_two oa ob
 split
 ·show(row.getD _ bQ).Ok;rw[getD_eq_getElem?_getD];cases h:row[(bE l o.nm).toNat]? with
  | none=>exact ur
  | some v=>exact hr v (mem_of_getElem? h)
 exact ho
theorem Ku{st:List Vl}(h:∀v∈st,v.Ok)(j:Nat):(st.getD j bQ).Ok:=by
 rw[getD_eq_getElem?_getD];cases hj:st[j]? with
 | none=>exact ur
 | some v=>exact h v (mem_of_getElem? hj)
theorem Kv{st:List Vl}(h:∀v∈st,v.Ok)(k:Int):(fp bQ k st).Ok:=by unfold fp;split;exact Ku h _;exact ur
theorem Kw{st:List Vl}(h:∀v∈st,v.Ok)(k:Int):(fq bQ k st).Ok:=by unfold fq;split;exact Ku h _;exact ur
theorem QZ{α:Type}{z:α}{f:bf->α->α->α × Int}:∀{l:List bf} {st:List α},(jX z f l st).2=0->∀o∈l,∃a b,(f o a b).2=0
 | [],_,_,o,ho=>by cases ho
 | x::r,st,h,o,ho=>by
  rw[jX] at h;split at h
  ·rename_i hne;exact absurd h hne
  rename_i he;rcases mem_cons.1 ho with rfl|ho
  ·exact⟨_,_,Classical.not_not.1 he⟩
  exact QZ h o ho
theorem Q0(h:(uq l ops).2=0):∀o∈ops,o.k=2->0<=bE l o.nm:=fun o ho hk=>by
 obtain⟨a,b,he⟩:=QZ h o ho;unfold jD at he;rw[if_neg w4,if_pos hk] at he;unfold vr at he;split at he
 ·cases he
 omega
theorem Ki(h:dY l row=0):row.length=l.length:=by
 unfold dY at h;split at h
 ·rename_i h1;exact absurd h h1
 split at h
 ·cases h
 omega
theorem FJ(h:(eu l ops).2=0):fQ l=0/\jk ops=0/\eu l ops=uq l ops:=by
 unfold eu at h |-;split at h
 ·rename_i h1;exact absurd h h1
 rename_i h1;split at h
 ·rename_i h2;exact absurd h h2
 rename_i h2;exact⟨Classical.not_not.1 h1,Classical.not_not.1 h2,by rw[if_neg h1,if_neg h2]⟩
variable {G:List (Nat×List Value)}
theorem ab1(l:List cy)(hl:l.length<=6)(row:List Vl)(gN:row.length=l.length)(o:bf)(I:o.k=2->0<=bE l o.nm)(a b a' Z:Vl)(ha:a=a')(hb:b=Z)(oa:a.Ok)(ob:b.Ok)(br bc:Nat):VC Tryz.prog G 150 [.agg (cO o),.agg (cV a'),.agg (cV Z),cY br,cY bc] [⟨br,40,1,[ap 3 cV row]⟩,⟨bc,39,1,[ap 2 cC l]⟩] (fun r S=>r=nw (gv l row o a b)/\S=[⟨br,40,1,[ap 3 cV row]⟩,⟨bc,39,1,[ap 2 cC l]⟩]):=by
 refine VC.body func150 rfl ntmps150 aU fun X0 w0 bj=>?_;subst ha hb;have nl:=aha (G:=G) o.k a;have E:=ahb (G:=G) o.k a b oa ob;unfold nw at nl E |-;unfold cV at nl E;unfold cO cV;have O:=vg (fun c:cy=>c.n.toList==o.nm.toList) l;have ox:bE l o.nm=dK (fun c:cy=>c.n.toList==o.nm.toList) l:=rfl;rw[<-ox] at O;clear ox;refine bS ?_;refine OD.box (ds:=[_,_,_,_,_]) aq rfl rfl ot rfl rfl (fun b5=>?_);refine OD.box (ds:=[_,_,_]) aq rfl rfl ot rfl rfl (fun b6=>?_);refine OD.box (ds:=[_,_,_]) aq rfl rfl ot rfl rfl (fun b7=>?_);refine OD.alloc (ds:=[_,_,_]) aq rfl rfl zeroValue56 rfl (fun b8=>?_);refine an 42 [3,4,5,6,7,8] ?_;refine cL [3,4,5,6,7,8,12] (Fl o.k) ?_;refine af [3,4,5,6,7,8,12,13] ?_;refine au ?_ ?_<;>intro aJ bz
 ·have aV:gv l row o a b=ux o.k a:=(by unfold gv;rw[if_pos w4])
  refine aB 3 ?_;refine ez call151 (nl) ?_;refine aH 2 ?_;exact N1
 refine af [3,4,5,6,7,8,21] ?_;refine au ?_ ?_<;>intro aX cr
 ·have aV:gv l row o a b=iV o.k a b:=(by unfold gv;rw[if_neg w4,if_pos w4])
  refine aB 4 ?_;refine ez call152 (E) ?_;refine aH 2 ?_;exact N1
 refine af [3,4,5,8,32] ?_;refine au ?_ ?_<;>intro bL cJ
 ·have eD:o.k=2:=(by omega)
  have aJ:=I eD;have U:(bE l o.nm).toNat<row.length:=(by omega)
  have aV:gv l row o a b=(row[(bE l o.nm).toNat],0):=(by unfold gv;rw[if_neg w4,if_neg w4,if_pos eD,getD_eq_getElem?_getD,getElem?_eq_getElem U];rfl)
  refine CD.seq ?_;refine nk 7 [8,39] ?_;refine cf (pU l hl o.nm) ?_;refine bA ?_;exact N1
 have aV:gv l row o a b=(o.v,0):=(by unfold gv;rw[if_neg w4,if_neg w4,if_neg w4])
 refine aB 2 ?_;refine aP 0 [_,_,_] sizeOf56 ?_;refine an 42 [8,9] ?_;exact WN
theorem aa3:(Tryz.prog.info? 56).map (fun i=>(i.zero,i.size,i.bytes))=some (some (.agg #[.int .i64 0,.int .i64 0,.string ⟨#[]⟩]),3,32):=by kernel_rfl
theorem adY(l:List cy)(hl:l.length<=6)(row:List Vl)(gN:row.length=l.length)(MP:∀v∈row,v.Ok)(ops:List bf)(fY:∀o∈ops,o.v.Ok)(akN:∀o∈ops,o.k=2->0<=bE l o.nm)(qv:ops.length<=40)(hx:fR 0 ops=0)(br bc:Nat):VC Tryz.prog G 149 [ap 5 cO ops,.eI (.func 150) [cY br,cY bc]] [⟨br,40,1,[ap 3 cV row]⟩,⟨bc,39,1,[ap 2 cC l]⟩] (fun r S=>r=nw (vC l row ops)/\S=[⟨br,40,1,[ap 3 cV row]⟩,⟨bc,39,1,[ap 2 cC l]⟩]):=by
 refine VC.body func149 rfl ntmps149 aU fun X0 w0 bj=>?_;unfold nw;refine bS ?_;refine OD.alloc (ds:=[_,_,_]) aq rfl rfl zeroValue56 rfl (fun b4=>?_);refine an 64 [0,1,4] ?_;refine bS ?_;refine OD.alloc (ds:=[_,_,_]) aq rfl rfl zeroValue56 rfl (fun b6=>?_);refine OD.perm (Jy (k:=2) (k':=2) rfl rfl) ?_;refine an 64 [0,1,4,6] ?_;refine bS ?_;refine bu [0,1,4,6,7] ?_;refine af [1,4,6,7,16,17,18] ?_;refine CD.block ?_;refine nu (fun (aO:Nat×List Vl×Option Addr×Nat×List ah) aE=>match aO with|(i,st,I,E,Sh)=>(i<=ops.length)/\(st.length<=i)/\(fR ((st.length:Nat):Int) (ops.drop i)=0)/\(vC l row ops=jX bQ (gv l row) (ops.drop i) st)/\(∀v∈st,v.Ok)/\(bn 56 3 ((st).flatMap cV) (st).length I E Sh)/\aE=(⟨64,[(1,.eI (.func 150) [cY br,cY bc]),(4,cY b4),(6,cY b6),(7,aT I (st).length E),(16,ap 5 cO ops),(17,ae (ops.length:Nat)),(18,ae (i:Nat))],(⟨br,40,1,[ap 3 cV row]⟩::⟨bc,39,1,[ap 2 cC l]⟩::⟨b6,56,3,[ae 0,ae 0,gh]⟩::⟨b4,56,3,[ae 0,ae 0,gh]⟩::Sh)⟩:St)) (fun (aO:Nat×List Vl×Option Addr×Nat×List ah)=>match aO with|(i,st,I,E,Sh)=>ops.length-i) (0,[],none,0,[]) ⟨(Nat.zero_le _),(Nat.zero_le _),hx,rfl,(fun v hv=>by cases hv),(bn.cast iR jZ),rfl⟩ (aI (h:=by repeat (first|exact trivial|refine⟨G8,?_⟩))) ?_;rintro⟨i,st,I,E,Sh⟩ _ ⟨hi,eU,hex,hinv,aW,U,rfl⟩;refine af [1,4,6,7,16,17,18,19] ?_;refine au ?_ ?_<;>intro aJ bz
 ·have aa:i<ops.length:=(by omega)
  obtain⟨he,yM⟩:=QX aa hex;obtain⟨rS,Xa,yN,gA⟩:=wX he;have DO:=uj ops[i].k;have tJ:(st.take (st.length-(bU ops[i].k).toNat)++[(gv l row ops[i] (fp bQ ops[i].k st) (fq bQ ops[i].k st)).1]).length=st.length+1-(bU ops[i].k).toNat:=(by rw[length_append,length_take,length_singleton];omega)
  have oB:fR (((st.take (st.length-(bU ops[i].k).toNat)++[(gv l row ops[i] (fp bQ ops[i].k st) (fq bQ ops[i].k st)).1]).length:Nat):Int) (ops.drop (i+1))=0:=(by rw[tJ,show(((st.length+1-(bU ops[i].k).toNat:Nat)):Int)=(st.length:Int)+(1-bU ops[i].k) by omega];exact yM)
  have akO:∀v∈st.take (st.length-(bU ops[i].k).toNat)++[(gv l row ops[i] (fp bQ ops[i].k st) (fq bQ ops[i].k st)).1],v.Ok:=fun v hv=>by rcases mem_append.1 hv with hv|hv;exact aW v (mem_of_mem_take hv);rw[mem_singleton] at hv;rw[hv];exact Up MP (fY _ (getElem_mem aa)) (Kv aW _) (Kw aW _)
  refine aB 2 ?_;refine OD.alloc (ds:=[_,_,_,_,_]) aq rfl rfl zeroValue58 rfl (fun b9=>?_);refine aP 0 [_,_,_,_,_] sizeOf58 ?_;refine an 64 [1,4,6,7,9,16,17,18] ?_;refine bS ?_;refine OD.alloc (ds:=[_,_,_]) aq rfl rfl zeroValue56 rfl (fun jL=>?_);refine OD.alloc (ds:=[_,_,_]) aq rfl rfl zeroValue56 rfl (fun lS=>?_);refine an 64 [1,4,6,7,9,10,11,16,17,18] ?_;refine cL [1,4,6,7,9,10,11,12,16,17,18] (Fl ops[i].k) ?_;refine af [1,4,6,7,9,10,11,12,13,16,17,18] ?_;refine iH [1,4,6,9,10,11,12,13,16,17,18] (fun aS _ aE=>∃(va:Vl),∃(I:Option Addr),∃(E:Nat),∃(Sh:List ah),(fp bQ ops[i].k st=va)/\(bn 56 3 (st.flatMap cV) st.length I E Sh)/\aE=(⟨64,(7,aT I st.length E)::aS,(⟨lS,56,3,[ae 0,ae 0,gh]⟩::⟨jL,56,3,[ae va.k,ae va.n,bg va.s]⟩::⟨b9,58,5,[ae ops[i].k,ae ops[i].v.k,ae ops[i].v.n,bg ops[i].v.s,bg ops[i].nm]⟩::⟨br,40,1,[ap 3 cV row]⟩::⟨bc,39,1,[ap 2 cC l]⟩::⟨b6,56,3,[ae 0,ae 0,gh]⟩::⟨b4,56,3,[ae 0,ae 0,gh]⟩::Sh)⟩:St)) ?_ ?_
  ·refine af [1,4,6,7,9,10,11,12,13,16,17,18,30] ?_;refine au ?_ ?_<;>intro aX cr
   ·obtain⟨bh,rfl,Z,O,rfl⟩:=U.pos w4;have uT:(st.length-(bU ops[i].k).toNat)<st.length:=(by omega)
    have ha:fp bQ ops[i].k st=st[(st.length-(bU ops[i].k).toNat)]:=(by unfold fp;rw[if_pos w4,getD_eq_getElem?_getD,getElem?_eq_getElem uT];rfl)
    refine dw 2 ?_;refine bN (dL 3 (h:=by first|exact .l (j:=(st.length-(bU ops[i].k).toNat)) w4 w4|exact .r (j:=(st.length-(bU ops[i].k).toNat)) w4 w4)) ?_;refine bN (dz (mk:=Op.load 56) rfl ot (dJ (k:=7) fG rfl rfl rfl isAgg56 sizeOf56 uT)) ?_;refine aP 1 [_,_,_] sizeOf56 ?_;refine an 64 [1,4,6,7,9,10,11,12,13,16,17,18] ?_;refine⟨_,aI,(st[(st.length-(bU ops[i].k).toNat)]),(some ⟨bh,0,none⟩),E,[⟨bh,56,E*3,flatMap cV st⟩],ha,(bJ (g:=cV) (ls:=st) Z O),rfl⟩
   have ha:fp bQ ops[i].k st=bQ:=(by unfold fp;rw[if_neg w4])
   refine CD.skip ?_;refine⟨_,aI,bQ,I,E,Sh,ha,U,rfl⟩
  rintro _ ⟨va,I,E,Sh,ha,U,rfl⟩;refine iH [1,4,6,9,10,11,13,16,17,18] (fun aS _ aE=>∃(vb:Vl),∃(I:Option Addr),∃(E:Nat),∃(Sh:List ah),(fq bQ ops[i].k st=vb)/\(bn 56 3 (st.flatMap cV) st.length I E Sh)/\aE=(⟨64,(7,aT I st.length E)::aS,(⟨lS,56,3,[ae vb.k,ae vb.n,bg vb.s]⟩::⟨jL,56,3,[ae va.k,ae va.n,bg va.s]⟩::⟨b9,58,5,[ae ops[i].k,ae ops[i].v.k,ae ops[i].v.n,bg ops[i].v.s,bg ops[i].nm]⟩::⟨br,40,1,[ap 3 cV row]⟩::⟨bc,39,1,[ap 2 cC l]⟩::⟨b6,56,3,[ae 0,ae 0,gh]⟩::⟨b4,56,3,[ae 0,ae 0,gh]⟩::Sh)⟩:St)) ?_ ?_
  ·refine af [1,4,6,7,9,10,11,13,16,17,18,36] ?_;refine au ?_ ?_<;>intro bL cJ
   ·obtain⟨bh,rfl,Z,O,rfl⟩:=U.pos w4;have CR:(st.length-(bU ops[i].k).toNat)+1<st.length:=(by omega)
    have hb:fq bQ ops[i].k st=st[(st.length-(bU ops[i].k).toNat)+1]:=(by unfold fq;rw[if_pos w4,getD_eq_getElem?_getD,getElem?_eq_getElem CR];rfl)
    refine dw 3 ?_;refine bN (dL 3 (h:=by first|exact .l (j:=(st.length-(bU ops[i].k).toNat)+1) w4 w4|exact .r (j:=(st.length-(bU ops[i].k).toNat)+1) w4 w4)) ?_;refine bN (dz (mk:=Op.load 56) rfl ot (dJ (k:=7) fG rfl rfl rfl isAgg56 sizeOf56 CR)) ?_;refine aP 0 [_,_,_] sizeOf56 ?_;refine an 64 [1,4,6,7,9,10,11,13,16,17,18] ?_;refine⟨_,aI,(st[(st.length-(bU ops[i].k).toNat)+1]),(some ⟨bh,0,none⟩),E,[⟨bh,56,E*3,flatMap cV st⟩],hb,(bJ (g:=cV) (ls:=st) Z O),rfl⟩
   have hb:fq bQ ops[i].k st=bQ:=(by unfold fq;rw[if_neg w4])
   refine CD.skip ?_;refine⟨_,aI,bQ,I,E,Sh,hb,U,rfl⟩
  rintro _ ⟨vb,I,E,Sh,hb,U,rfl⟩;refine aB 4 ?_;refine OD.lY (f:=150) (args:=[_,_,_]) (all:=[_,_,_,_,_]) (Sf:=[⟨br,40,1,[ap 3 cV row]⟩,⟨bc,39,1,[ap 2 cC l]⟩]) aq rfl rfl ot call150 (ab1 l hl row gN ops[i] (akN _ (getElem_mem aa)) _ _ (va) (vb) ha hb (Kv aW _) (Kw aW _) br bc) rfl ⟨ot,ot,ot,trivial⟩ (Jy (k:=3) (k':=3) rfl rfl) ?_;rintro _ _ ⟨rfl,rfl⟩;refine aH 3 ?_;refine OD.alloc (ds:=[_,_,_]) aq rfl rfl zeroValue56 rfl (fun DX=>?_);refine aP 0 [_,_,_] sizeOf56 ?_;refine an 64 [1,4,6,7,13,14,15,16,17,18] ?_;refine af [1,4,6,7,13,14,15,16,17,18,51] ?_;refine au ?_ ?_<;>intro cN en
  ·have hz:(gv l row ops[i] (fp bQ ops[i].k st) (fq bQ ops[i].k st)).2≠0:=(by simpa using cN)
   have aV:=hinv.trans (Um aa hz);refine aB 2 ?_;refine aP 7 [_,_,_] sizeOf56 ?_;refine an 64 [4,5] ?_;refine aK [⟨br,40,1,[ap 3 cV row]⟩,⟨bc,39,1,[ap 2 cC l]⟩] ?_;rw[aV];exact⟨rfl,rfl⟩
  have hz:(gv l row ops[i] (fp bQ ops[i].k st) (fq bQ ops[i].k st)).2=0:=(by simpa using cN)
  refine CD.skip ?_;refine CD.Ah (k:=(st.length-(bU ops[i].k).toNat)) (ls:=st) (Sq:=Sh) fG w4 U (cZ (A:=[_,_,_,_,_,_,_,_])) (fun MN LN=>?_);refine CD.perm (dU (A:=[_,_,_,_,_,_,_,_])) ?_;refine gP 6 (av (take 1 _)) ?_ (fun _ h=>(Sublist.map _ (take_sublist _ _)).subset h);refine aD 0 rfl bD ?_;refine aD 1 rfl bD ?_;first|refine aD 2 rfl (ED (n:=st.length) (k:=(take (st.length-(bU ops[i].k).toNat) st).length) (cs:=st.flatMap cV) rfl ot rfl ⟨_,_,ot,by rw[length_take];omega⟩ runUnderlying40 sizeOf56 pC U) ?_|refine aD 2 rfl (ED (n:=st.length) (k:=(take (st.length-(bU ops[i].k).toNat) st).length) (cs:=st.flatMap cV) rfl ot rfl ⟨_,_,ot,by rw[length_take];omega⟩ runUnderlying40 sizeOf56 pC (bJ (e:=56) (g:=cV) (ls:=st) Z O)) ?_
  refine aD 3 rfl (dz (mk:=Op.load 56) rfl ot (by first|exact qD (k:=0) (ds:=[_,_,_]) rfl rfl isAgg56 sizeOf56 rfl rfl|exact kH nB isAgg56 sizeOf56 w5|exact kH fG isAgg56 sizeOf56 w5|exact dJ (k:=0) nB rfl rfl rfl isAgg56 sizeOf56 w5|exact dJ (k:=1) nB rfl rfl rfl isAgg56 sizeOf56 w5|exact dJ (k:=2) nB rfl rfl rfl isAgg56 sizeOf56 w5|exact dJ (k:=3) nB rfl rfl rfl isAgg56 sizeOf56 w5|exact dJ (k:=4) nB rfl rfl rfl isAgg56 sizeOf56 w5|exact dJ (k:=5) nB rfl rfl rfl isAgg56 sizeOf56 w5|exact dJ (k:=6) nB rfl rfl rfl isAgg56 sizeOf56 w5|exact dJ (k:=7) nB rfl rfl rfl isAgg56 sizeOf56 w5|exact dJ (k:=0) fG rfl rfl rfl isAgg56 sizeOf56 w5|exact dJ (k:=1) fG rfl rfl rfl isAgg56 sizeOf56 w5|exact dJ (k:=2) fG rfl rfl rfl isAgg56 sizeOf56 w5|exact dJ (k:=3) fG rfl rfl rfl isAgg56 sizeOf56 w5|exact dJ (k:=4) fG rfl rfl rfl isAgg56 sizeOf56 w5|exact dJ (k:=5) fG rfl rfl rfl isAgg56 sizeOf56 w5|exact dJ (k:=6) fG rfl rfl rfl isAgg56 sizeOf56 w5|exact dJ (k:=7) fG rfl rfl rfl isAgg56 sizeOf56 w5|exact qG (ds:=[_,_,_]) isAgg56 sizeOf56 rfl rfl)) ?_;refine dM.later rfl ?_;refine AD.one (i:=4) aC ?_;refine nq (cu 0 [_]) [.int .i64 0,.int .i64 0,.string ⟨#[]⟩] [_,_,_] zeroValue56 runUnderlying40 sizeOf56 (fun AP=>?_);refine nQ 0 58 3 1 ?_;refine AD.one (i:=5) aC ?_
  refine bC.eG (ls:=(take (st.length-(bU ops[i].k).toNat) st)) (new:=[(gv l row ops[i] (fp bQ ops[i].k st) (fq bQ ops[i].k st)).1]) (Sq:=MN) fG F2 rfl aq rfl rfl underlying40 aa3 rfl w8 ot LN (cZ (A:=[_,_,_,_,_,_,_,_])) ot bq v7 iF (fun tr sO Cw Cx=>?_);refine AD.perm (dU (S1:=[⟨tr,56,sO*3,flatMap cV ((take (st.length-(bU ops[i].k).toNat) st)++[(gv l row ops[i] (fp bQ ops[i].k st) (fq bQ ops[i].k st)).1])⟩]) (A:=[_,_,_,_,_,_,_,_])) ?_;refine fm ?_;refine bu [1,4,6,7,16,17,18] ?_;refine bM [1,4,6,7,16,17,18] ?_;refine⟨((i+1),(st.take (st.length-(bU ops[i].k).toNat)++[(gv l row ops[i] (fp bQ ops[i].k st) (fq bQ ops[i].k st)).1]),(some ⟨tr,0,none⟩),sO,[⟨tr,56,sO*3,flatMap cV ((take (st.length-(bU ops[i].k).toNat) st)++[(gv l row ops[i] (fp bQ ops[i].k st) (fq bQ ops[i].k st)).1])⟩]),_,cn,(aI (h:=by repeat (first|exact trivial|refine⟨G8,?_⟩))),w4,(by rw[tJ];omega),oB,(hinv.trans (Un aa hz)),akO,(bn.cast (bJ Cw Cx) (by rfl)),rfl⟩
 have h1:=SD w4 hex;have CS:0<st.length:=(by omega)
 obtain⟨bh,rfl,Z,O,rfl⟩:=U.pos w4;have aV:=hinv.trans (SC w4);have iW:st.getD 0 bQ=st[0]:=(by rw[getD_eq_getElem?_getD,getElem?_eq_getElem CS];rfl)
 rw[iW] at aV;refine aB 1 ?_;refine bN (nV (mk:=Op.indexAddr 40) rfl ot bV (by first|exact oF (j:=0) runUnderlying40 sizeOf56 rfl vZ|exact oI (j:=0) runUnderlying40 sizeOf56 rfl vZ)) ?_;refine bN (dz (mk:=Op.load 56) rfl ot (dJ (k:=4) fG rfl rfl rfl isAgg56 sizeOf56 CS)) ?_;refine aP 3 [_,_,_] sizeOf56 ?_;refine an 64 [4,5] ?_;exact WN
theorem afz(l:List cy)(hl:l.length<=6)(row:List Vl)(gN:row.length=l.length)(E:∀v∈row,v.Ok)(ops:List bf)(fY:∀o∈ops,o.v.Ok)(I:∀o∈ops,o.k=2->0<=bE l o.nm)(hx:jk ops=0):VP Tryz.prog G 131 [ap 2 cC l,ap 3 cV row,ap 5 cO ops] (nw (vC l row ops)):=by
 refine VC.body func131 rfl ntmps131 aU fun X0 w0 bj=>?_;obtain⟨O,iu⟩:=xn hx;have eY:=fun br bc=>adY (G:=G) l hl row gN E ops fY I O iu br bc;unfold nw at eY |-;generalize vC l row ops=q at eY |-;skip;refine bS ?_;refine OD.box (ds:=[_]) aq rfl rfl ot rfl rfl (fun b3=>?_);refine OD.box (ds:=[_]) aq rfl rfl ot rfl rfl (fun U=>?_);refine OD.alloc (ds:=[_,_,_]) aq rfl rfl zeroValue56 rfl (fun Z=>?_);refine an 13 [2,3,4,6] ?_;refine aB 1 ?_;refine bN (sy (ds:=[_,_]) rfl ⟨ot,ot,trivial⟩) ?_;refine OD.call aq rfl rfl rfl call149 (eY U b3) ⟨ot,ot,trivial⟩ (Jy (k:=1) (k':=1) rfl rfl) ?_;rintro _ _ ⟨rfl,rfl⟩;refine aH 2 ?_;refine aP 2 [_,_,_] sizeOf56 ?_;refine an 13 [6,7] ?_;exact nP
theorem Uq(hm:(3,marksC)∈G)(hw:(1,wordsC)∈G)(ht:(0,typesC)∈G)(l:List cy)(hl:l.length<=6)(aW:∀c∈l,c.n.size<=maxLen)(row:List Vl)(gN:row.length<=1000)(E:∀v∈row,v.Ok)(ops:List bf)(ho:∀o∈ops,o.nm.size<=maxLen)(fY:∀o∈ops,o.v.Ok):VP Tryz.prog G 94 [ap 2 cC l,ap 3 cV row,ap 5 cO ops] (nw (fA l row ops)):=by
 refine VC.body func94 rfl ntmps94 aU fun X0 w0 bj=>?_;have cR:=dI;have U:=K8 hm hw ht l w4 aW row w4;have I:=Ks hm hw ht l hl aW ops ho;unfold qc at I;unfold nw;refine bS ?_;refine OD.alloc (ds:=[_,_,_]) aq rfl rfl zeroValue56 rfl (fun Z=>?_);refine an 34 [0,1,2,6] ?_;refine cL [0,1,2,6,8] (U) ?_;refine af [0,1,2,6,8,15] ?_;refine au ?_ ?_<;>intro aJ bz
 ·have h0:dY l row≠0:=(by simpa using aJ)
  have aV:fA l row ops=(bQ,dY l row):=(by unfold fA;rw[if_pos h0])
  refine aB 2 ?_;refine aP 0 [_,_,_] sizeOf56 ?_;refine an 34 [6,7] ?_;exact pG
 have h0:dY l row=0:=(by simpa using aJ)
 refine cL [0,1,2,6,10] (I) ?_;refine af [0,1,2,6,10,25] ?_;refine au ?_ ?_<;>intro aX cr
 ·have h1:(eu l ops).2≠0:=(by simpa using aX)
  have aV:fA l row ops=(bQ,(eu l ops).2):=(by unfold fA;rw[if_neg (by simp[h0]),if_pos h1])
  refine aB 2 ?_;refine aP 0 [_,_,_] sizeOf56 ?_;refine an 34 [6,7] ?_;exact pG
 have h1:(eu l ops).2=0:=(by simpa using aX)
 obtain⟨k1,k2,k3⟩:=FJ h1;have aV:fA l row ops=vC l row ops:=(by unfold fA;rw[if_neg (by simp[h0]),if_neg (by simp[h1])])
 have O:=afz (G:=G) l hl row (Ki h0) E ops fY (Q0 (by rw[<-k3];exact h1)) k2;unfold nw at O;refine aB 3 ?_;refine ez call131 (O) ?_;refine aH 2 ?_;refine aP 0 [_,_,_] sizeOf56 ?_;refine an 34 [6,7] ?_;exact uL

end Go.Proofs.YtbplamgacibdaaaGreatDoor.Ex
namespace Go.Proofs.YtbplamgacibdaaaGreatDoor.Pc
open List
open Go.Proofs.Tryz
open Go.RowKit V Pk Vl Go.Proofs.YtbplamgacibdaaaGreatDoor.Nm
variable {G:List (Nat×List Value)}
def dF:List cy:=[⟨⟨#[105,100]⟩,2⟩,⟨⟨#[110]⟩,2⟩,⟨⟨#[115]⟩,3⟩,⟨⟨#[98]⟩,1⟩]
def pZ(n:Int):Vl:=if cx n 3=2 then bQ else ⟨1,cx n 3,⟨#[]⟩⟩
def GS(n:Int):Vl:=⟨2,n,⟨#[]⟩⟩
theorem aix:cW ⟨#[105,100]⟩=0:=tQ (l:=[105,100]) w8 w8 w8
theorem akP:cW ⟨#[110]⟩=0:=tQ (l:=[110]) w8 w8 w8
theorem akQ:cW ⟨#[115]⟩=0:=tQ (l:=[115]) w8 w8 w8
theorem akR:cW ⟨#[98]⟩=0:=tQ (l:=[98]) w8 w8 w8
theorem J7:fQ dF=0:=by
 simp[fQ,dF,rB,nM,aix,akP,akQ,akR,wV]
theorem aeW:∀c∈dF,c.n.size<=maxLen:=fun c hc=>by
 have h:c.n.size<=2:=by
  simp only[dF,mem_cons,not_mem_nil,or_false] at hc;rcases hc with rfl|rfl|rfl|rfl
  ·exact Nat.le_refl 2
  ·exact Nat.le_succ 1
  ·exact Nat.le_succ 1
  exact Nat.le_succ 1
 exact Nat.le_trans h w8
theorem ahc(n:Int):de (GS n)=0:=by
 unfold de;rw[if_neg (show ¬(GS n).k=0 by show ¬(2:Int)=0;decide),if_neg (show ¬(GS n).k=1 by show ¬(2:Int)=1;decide),if_pos (show(GS n).k=2 from rfl),if_neg (fun h=>h rfl)]
theorem Gp:de bQ=0:=by decide
theorem Q1:VP Tryz.prog G 14 [] (ap 2 cC dF):=by
 refine VC.body func14 rfl ntmps14 aU fun X0 w0 bj=>?_;refine af [] ?_;refine aB 4 ?_;refine ey (cu 0 [_,_,_,_]) [.string ⟨#[]⟩,.int .i64 0,.string ⟨#[]⟩,.int .i64 0,.string ⟨#[]⟩,.int .i64 0,.string ⟨#[]⟩,.int .i64 0] [_,_,_,_,_,_,_,_] zeroValue93 runUnderlying39 sizeOf93 (fun b5=>?_);refine OD.perm (dU (S1:=[⟨b5,93,4*2,flatMap cC ([⟨⟨#[105,100]⟩,2⟩,⟨⟨#[110]⟩,2⟩,⟨⟨#[115]⟩,3⟩,⟨⟨#[98]⟩,1⟩])⟩]) (A:=[])) ?_;refine an 6 [0] ?_;refine CD.gK (t:=0) (Sq:=[⟨b5,93,4*2,flatMap cC ([⟨⟨#[105,100]⟩,2⟩,⟨⟨#[110]⟩,2⟩,⟨⟨#[115]⟩,3⟩,⟨⟨#[98]⟩,1⟩])⟩]) lk (bJ (g:=cC) (sz:=2) (e:=93) (ls:=[⟨⟨#[105,100]⟩,2⟩,⟨⟨#[110]⟩,2⟩,⟨⟨#[115]⟩,3⟩,⟨⟨#[98]⟩,1⟩]) (Nat.le_refl _) (show 4<=maxLen by decide)) (cm lV _) (cZ (A:=[])) ?_;exact nP

end Go.Proofs.YtbplamgacibdaaaGreatDoor.Pc
namespace Go.Proofs.YtbplamgacibdaaaGreatDoor.Ex
open List
open Go.Proofs.Tryz
open Go.RowKit V Pk Vl Go.Proofs.YtbplamgacibdaaaGreatDoor.Nm Pc
variable {k:Int} {a b:Vl} {l:List cy} {row:List Vl} {o:bf} {α:Type} {ks:List Int}
theorem IE(b:Bool):de (qE b)=0:=by cases b<;>decide
theorem ab2(n:Int):de ⟨2,n,⟨#[]⟩⟩=0:=ahc n
theorem FK(h:¬(k=8\/k=9\/k=10)):xQ k=1:=if_neg h
theorem afA(h:k=8\/k=9\/k=10):xQ k=2:=if_pos h
theorem JF(b:Bool):(qE b).k=1:=by cases b<;>rfl
theorem E1{v:Vl}(h:jn v=0):de v=0:=by
 unfold jn at h;split at h
 ·cases h
 exact h
def ko(k:Int)(v:Vl):Prop:=de v=0/\(v.k=k\/v.k=0)
theorem B7:ko 0 bQ:=⟨Gp,.inl rfl⟩
structure zU (l:List cy) (o:bf):Prop where
 nm:o.nm.size<=maxLen
 ok:o.v.Ok
 ck:de o.v=0
 k1:1<=o.k
 k2:o.k<=11
 Zu:o.k=2->0<=bE l o.nm
def Gq(l:List cy)(row:List Vl):Prop:=∀i:Nat,ko (l.getD i ⟨⟨#[]⟩,0⟩).k (row.getD i bQ)
theorem zV{a b:Int}(h:rV a b=true):a=b\/a=0:=by
 unfold rV at h;simpa using h
theorem aa4{d:Int}(ha:de a=0)(hb:de b=0)(h1:a.k=1\/a.k=0)(h2:b.k=1\/b.k=0):(lH a b d).2=0/\ko 1 (lH a b d).1:=by
 unfold lH;rw[if_neg w4];split
 ·exact⟨rfl,ha,h1⟩
 split
 ·exact⟨rfl,hb,h2⟩
 split
 ·exact⟨rfl,Gp,.inr rfl⟩
 exact⟨rfl,ha,h1⟩
theorem afB(ha:de a=0)(hb:de b=0):Cd.mZ a b=0:=by unfold Cd.mZ;rw[ha,hb];rfl
theorem ab3(h:Cd.mZ a b=0)(hk:k=3\/k=4):∃d,iV k a b=lH a b d:=by
 unfold iV;rw[if_neg (by simp[h])];rcases hk with rfl|rfl
 ·exact⟨0,if_pos rfl⟩
 exact⟨1,by rw[if_neg w8,if_pos rfl]⟩
theorem adZ(h:Cd.mZ a b=0)(hk:k=6\/k=7):iV k a b=if rE a b=true then (bQ,0) else if a.k≠b.k then (bQ,4) else (qE ((Cd.jl a b==0&&k==6)||(decide (Cd.jl a b<0)&&k==7)),0):=by
 unfold iV;rw[if_neg (by simp[h]),if_neg w4,if_neg w4,if_pos hk]
theorem ab4(hr:Gq l row)(ho:zU l o){a b:Int}{E vb:Vl}(ha:ko a E)(hb:ko b vb)(h:(jD l o a b).2=0) :
  (gv l row o E vb).2=5\/((gv l row o E vb).2=0/\ko (jD l o a b).1 (gv l row o E vb).1):=by
 have k1:=ho.k1;have k2:=ho.k2;obtain⟨ca,ka⟩:=ha;obtain⟨cb,kb⟩:=hb;have O:=afB ca cb;unfold jD at h |-;by_cases e1:o.k=1
 ·rw[if_pos e1];have:gv l row o E vb=(o.v,0):=(by unfold gv bU;rw[if_neg w4,if_neg (by rw[if_pos (.inl e1)];omega),if_neg w4]<;>(try rw[if_pos (.inl e1)];omega))
  rw[this];exact .inr ⟨rfl,ho.ck,.inl rfl⟩
 rw[if_neg e1] at h |-;by_cases e2:o.k=2
 ·rw[if_pos e2] at h |-;have hp:bU o.k=0:=(by unfold bU;rw[if_pos (.inr e2)])
  have hc:=ho.Zu e2;have:gv l row o E vb=(row.getD (bE l o.nm).toNat bQ,0):=(by unfold gv;rw[if_neg w4,if_neg w4,if_pos e2])
  rw[this];unfold vr;rw[if_neg w4];exact .inr ⟨rfl,hr _⟩
 rw[if_neg e2] at h |-;have aW:okF o.k a b=true:=by
  by_cases hk:okF o.k a b=true
  ·exact hk
  rw[if_neg hk] at h;cases h
 rw[if_pos aW];unfold okF at aW;by_cases I:o.k=5\/o.k=11
 ·have hp:bU o.k=1:=(by unfold bU;rw[if_neg w4,if_pos I])
  have he:gv l row o E vb=ux o.k E:=(by unfold gv;rw[if_pos hp])
  rw[he];unfold ux;rw[if_neg (by simp[ca])];rcases I with I|I
  ·have U:¬(o.k=3\/o.k=4):=(by omega)
   have Z:¬o.k=11:=(by omega)
   rw[if_neg U,if_pos I] at aW;have hi:=zV aW;rw[if_neg Z,if_pos I,FK w4];by_cases z:E.k=0
   ·rw[if_pos z];exact .inr ⟨rfl,ca,.inr z⟩
   rw[if_neg z,if_pos w4];exact .inr ⟨rfl,IE _,.inl (JF _)⟩
  rw[if_pos I,FK w4];exact .inr ⟨rfl,IE _,.inl (JF _)⟩
 have hp:bU o.k=2:=(by unfold bU;rw[if_neg w4,if_neg I])
 have he:gv l row o E vb=iV o.k E vb:=(by unfold gv;rw[if_neg w4,if_pos hp])
 rw[he];by_cases e3:o.k=3\/o.k=4
 ·rw[if_pos e3,Bool.and_eq_true] at aW;have i1:=zV aW.1;have i2:=zV aW.2;obtain⟨d,hd⟩:=ab3 O e3;rw[hd,FK w4];exact .inr (aa4 ca cb w4 w4)
 have n5:¬o.k=5:=(by omega)
 rw[if_neg e3,if_neg n5] at aW;by_cases e6:o.k=6\/o.k=7
 ·rw[if_pos e6,Bool.or_eq_true] at aW;rw[adZ O e6,FK w4];by_cases hn:rE E vb=true
  ·rw[if_pos hn];exact .inr ⟨rfl,Gp,.inr rfl⟩
  rw[if_neg hn];unfold rE at hn;simp only[Bool.or_eq_true,beq_iff_eq,not_or] at hn;have kW:E.k=vb.k:=by
   rcases aW with aW|aW
   ·have:=zV aW;omega
   have:b=0:=(by simpa using aW)
   omega
  rw[if_neg (by simpa using kW)];exact .inr ⟨rfl,IE _,.inl (JF _)⟩
 have e8:o.k=8\/o.k=9\/o.k=10:=(by omega)
 rw[if_neg e6,if_pos e8,Bool.and_eq_true] at aW;have i1:=zV aW.1;have i2:=zV aW.2;rw[QY O e8 w4,afA e8];split
 ·exact .inr ⟨rfl,Gp,.inr rfl⟩
 split
 ·exact .inr ⟨rfl,ab2 _,.inl rfl⟩
 exact .inl rfl
theorem Kx{z:α}{f:bf->α->α->α × Int}{r:List bf}{st:List α}(h:(f o (fp z o.k st) (fq z o.k st)).2=0):jX z f (o::r) st=jX z f r (st.take (st.length-(bU o.k).toNat)++[(f o (fp z o.k st) (fq z o.k st)).1]):=by
 rw[jX,if_neg (by rw[h];simp)]
theorem JG{z:α}{f:bf->α->α->α × Int}{r:List bf}{st:List α}(h:(f o (fp z o.k st) (fq z o.k st)).2≠0):jX z f (o::r) st=(z,(f o (fp z o.k st) (fq z o.k st)).2):=by
 rw[jX,if_pos h]
def CT(ks:List Int)(vs:List Vl):Prop:=ks.length=vs.length/\∀i:Nat,ko (ks.getD i 0) (vs.getD i bQ)
theorem SG(z x:α)(l:List α)(n i:Nat)(hn:n<=l.length):(l.take n++[x]).getD i z=if i<n then l.getD i z else if i=n then x else z:=by
 have hl:(l.take n).length=n:=(by rw[length_take];omega)
 by_cases h1:i<n
 ·rw[if_pos h1,getD_eq_getElem?_getD,getD_eq_getElem?_getD,getElem?_append_left w4,getElem?_take,if_pos h1]
 rw[if_neg h1,getD_eq_getElem?_getD,getElem?_append_right w4,hl];by_cases h2:i=n
 ·rw[if_pos h2,h2,Nat.sub_self];rfl
 rw[if_neg h2,getElem?_eq_none (by rw[length_singleton];omega)];rfl
theorem afC{vs:List Vl}(h:CT ks vs){v:Vl}(hr:ko k v){n:Nat}(hn:n<=ks.length):CT (ks.take n++[k]) (vs.take n++[v]):=by
 have hl:=h.1;refine⟨by simp only[length_append,length_take,length_singleton];omega,fun i=>?_⟩;rw[SG _ _ _ _ _ hn,SG _ _ _ _ _ w4];split
 ·exact h.2 i
 split
 ·exact hr
 exact B7
theorem afD{vs:List Vl}(h:CT ks vs)(k:Int):ko (fp 0 k ks) (fp bQ k vs)/\ko (fq 0 k ks) (fq bQ k vs):=by
 have hl:=h.1;unfold fp fq;rw[hl];refine⟨?_,?_⟩
 ·split
  ·exact h.2 _
  exact B7
 split
 ·exact h.2 _
 exact B7
theorem Q2{l:List cy}{row:List Vl}(hr:Gq l row):∀(ops:List bf),(∀o∈ops,zU l o)->∀(ks:List Int) (vs:List Vl),CT ks vs->(jX 0 (jD l) ops ks).2=0 ->
  (jX bQ (gv l row) ops vs).2=5\/((jX bQ (gv l row) ops vs).2=0/\ko (jX 0 (jD l) ops ks).1 (jX bQ (gv l row) ops vs).1)
 | [],_,ks,vs,h,_=>.inr ⟨rfl,h.2 0⟩
 | o::r,hg,ks,vs,h,h0=>by
  obtain⟨hA,hB⟩:=afD h o.k;by_cases hm:(jD l o (fp 0 o.k ks) (fq 0 o.k ks)).2=0
  ·rw[Kx hm] at h0 |-;rcases ab4 hr (hg o mem_cons_self) hA hB hm with h5|⟨hz,E⟩
   ·rw[JG (by rw[h5];decide)];exact .inl h5
   rw[Kx hz];have:=afC h E (n:=ks.length-(bU o.k).toNat) (Nat.sub_le _ _);rw[show vs.length-(bU o.k).toNat=ks.length-(bU o.k).toNat by rw[h.1]];exact Q2 hr r (fun x hx=>hg x (mem_cons_of_mem _ hx)) _ _ this h0
  rw[JG hm] at h0;exact absurd h0 hm
theorem ad0(ho:zU l o)(a b:Int):(jD l o a b).2=0\/(jD l o a b).2=4:=by
 unfold jD;split
 ·exact .inl rfl
 split
 ·rename_i h2;have:=ho.Zu h2;unfold vr;rw[if_neg w4];exact .inl rfl
 split
 ·exact .inl rfl
 exact .inr rfl
theorem SH{l:List cy}:∀(ops:List bf),(∀o∈ops,zU l o)->∀ks,(jX 0 (jD l) ops ks).2=0\/(jX 0 (jD l) ops ks).2=4
 | [],_,ks=>.inl rfl
 | o::r,hg,ks=>by
  rw[jX];split
  ·rename_i hne;rcases ad0 (hg o mem_cons_self) (fp 0 o.k ks) (fq 0 o.k ks) with h|h
   ·exact absurd h hne
   exact .inr h
  exact SH r (fun x hx=>hg x (mem_cons_of_mem _ hx)) _
theorem afE:CT [] []:=⟨rfl,fun i=>by rw[getD_nil,getD_nil];exact B7⟩
theorem ab5{ops:List bf}(hl:fQ l=0)(hw:dY l row=0)(hr:Gq l row)(hg:∀o∈ops,zU l o)(hx:jk ops=0) :
  eu l ops=uq l ops/\((eu l ops).2=0\/(eu l ops).2=4)/\((eu l ops).2=4->fA l row ops=(bQ,4)) /\
  ((eu l ops).2=0->fA l row ops=vC l row ops/\((fA l row ops).2=5\/((fA l row ops).2=0/\ko (eu l ops).1 (fA l row ops).1))):=by
 have hk:eu l ops=uq l ops:=(by unfold eu;rw[if_neg (by simp[hl]),if_neg (by simp[hx])])
 refine⟨hk,by rw[hk];exact SH ops hg [],fun h4=>?_,fun h0=>?_⟩
 ·unfold fA;rw[if_neg (by simp[hw]),if_pos xM,h4]
 have he:fA l row ops=vC l row ops:=(by unfold fA;rw[if_neg (by simp[hw]),if_neg (by simp[h0])])
 refine⟨he,?_⟩;rw[he,hk];exact Q2 hr ops hg [] [] afE (by rw[hk] at h0;exact h0)

end Go.Proofs.YtbplamgacibdaaaGreatDoor.Ex
namespace Go.Proofs.YtbplamgacibdaaaGreatDoor.Pc
open List
open Go.Proofs.Tryz
open Go.RowKit V Pk Vl Go.Proofs.YtbplamgacibdaaaGreatDoor.Nm
def typesB:List (List UInt8):=[[],[66,79,79,76],[73,78,84],[84,69,88,84]]
abbrev TypesTab(w:World):Prop:=Tab.l5 w 0 typesC

end Go.Proofs.YtbplamgacibdaaaGreatDoor.Pc
namespace Go.Proofs.YtbplamgacibdaaaGreatDoor.Ex





open List
open Go.Proofs.Tryz
open Go.RowKit V Pk Vl Go.Proofs.YtbplamgacibdaaaGreatDoor.Nm Pc Cd
open Go.Lib (compareBytes)
variable {ops:List bf} {k:List UInt8}
def nU(ops:List bf)(i:Nat):Int:=(ops.getD i (rz 0)).k
def jo(ops:List bf):Nat->Int->Nat
 | 0,_=>0
 | i+1,need=>if need+(bU (nU ops i)-1)>0 then jo ops i (need+(bU (nU ops i)-1)) else i
theorem vo{i:Nat}(h:i<ops.length):nU ops i=ops[i].k:=by unfold nU;rw[getD_eq_getElem?_getD,getElem?_eq_getElem h];rfl
theorem Vr{h h':Int}{o:bf}(he:gD h o=0)(hp:bU o.k<=h'):gD h' o=0:=by
 unfold gD at he |-;split at he
 ·cases he
 rename_i q1;rw[if_neg q1];split at he
 ·rename_i h2;exact absurd he h2
 rename_i q2;rw[if_neg q2];split at he
 ·cases he
 rename_i E;rw[if_neg E];split at he
 ·rename_i h4;exact absurd he h4.2
 rename_i I;rw[if_neg I,if_neg w4]
theorem I8{n:Nat}{h:Int}(hn:n<ops.length)(e:runs 0 (ops.take (n+1))=some h):∃h',runs 0 (ops.take n)=some h'/\gD h' ops[n]=0/\h=h'+(1-bU ops[n].k):=by
 rw[take_succ_eq_append_getElem hn,y4] at e;cases hr:runs 0 (ops.take n) with
 | none=>rw[hr] at e;cases e
 | some h' =>
  rw[hr,Option.bind_some,runs] at e;split at e
  ·rename_i he;rw[runs] at e;cases e;exact⟨h',rfl,he,rfl⟩
  cases e
theorem SI{ops:List bf}:∀(n:Nat) (need h:Int),n<=ops.length->runs 0 (ops.take n)=some h->1<=need->need<=h ->
  jo ops n need<n/\runs 0 (ops.take (jo ops n need))=some (h-need)/\∀k:Int,0<=k->runs k ((ops.take n).drop (jo ops n need))=some (k+need)
 | 0,need,h,_,e,h1,h2=>by rw[List.take_zero,runs] at e;cases e;omega
 | n+1,need,h,hn,e,h1,h2=>by
  have aa:n<ops.length:=(by omega)
  obtain⟨h',e1,e2,U⟩:=I8 aa e;have I:=uj ops[n].k;have rS:=(wX e2).1;have E:∀m,m<=n->(ops.take (n+1)).drop m=(ops.take n).drop m++[ops[n]]:=fun m hm=>by
   rw[take_succ_eq_append_getElem aa,drop_append,show m-(ops.take n).length=0 by rw[length_take];omega,drop_zero]
  rw[jo,vo aa];by_cases hc:need+(bU ops[n].k-1)>0
  ·rw[if_pos hc];obtain⟨q1,q2,O⟩:=SI n (need+(bU ops[n].k-1)) h' w4 e1 w4 w4;refine⟨by omega,by rw[q2];congr 1;omega,fun k hk=>?_⟩;rw[E _ w4,y4,O k hk,Option.bind_some,runs,if_pos (Vr e2 w4),runs];congr 1;omega
  rw[if_neg hc];refine⟨by omega,by rw[e1];congr 1;omega,fun k hk=>?_⟩;rw[E n (Nat.le_refl _),drop_of_length_le pC,nil_append,runs,if_pos (Vr e2 w4),runs];congr 1;omega
def mB(key:ByteArray)(o:bf):Bool:=o.k==2&&o.nm.toList==key.toList
def ik(o:bf):Bool:=o.k==1 && !(o.v.k==0)
abbrev lE:=List UInt8×List UInt8
variable {b:lE}
def oR(k:List UInt8)(b:lE):lE:=if compareBytes k b.1>0 then (k,b.2) else b
def sH(k:List UInt8)(b:lE):lE:=if b.2.length=0\/compareBytes k b.2<0 then (b.1,k) else b
def vG(kc:Int)(eq not:Bool)(k:List UInt8)(b:lE):lE :=
 bif eq||(kc==0)!=not then sH k (bif eq||(kc==0)==not then oR k b else b) else bif eq||(kc==0)==not then oR k b else b
def At(ops:List bf):List UInt8:=(gg [(ops.getD (dK ik (ops.take 2)).toNat (rz 0)).v]).1
def nE(key:ByteArray)(ops:List bf)(not:Bool)(b:lE):lE :=
 if ops.length≠3\/(not=true/\nU ops (ops.length-1)≠7)\/(nU ops (ops.length-1)≠6/\nU ops (ops.length-1)≠7) then b
 else if dK (mB key) (ops.take 2)<0\/dK ik (ops.take 2)<0 then b
 else vG (dK (mB key) (ops.take 2)) (nU ops (ops.length-1)==6) not (At ops) b
def gz(key:ByteArray):Nat->List bf->lE->lE
 | 0,_,b=>b
 | f+1,ops,b =>
  if nU ops (ops.length-1)=3 then gz key f ((ops.take (ops.length-1)).drop (jo ops (ops.length-1) 1)) (gz key f (ops.take (jo ops (ops.length-1) 1)) b)
  else if nU ops (ops.length-1)=5 then nE key (ops.take (ops.length-1)) true b
  else nE key ops false b
variable {G:List (Nat×List Value)} {m:Int}
theorem ab6(ops:List bf)(qv:ops.length<=40)(n:Nat)(hn:n<=ops.length)(h:Int)(hr:runs 0 (ops.take n)=some h)(h1:1<=h):VP Tryz.prog G 161 [ap 5 cO ops,ae (n:Nat)] (ae (jo ops n 1:Nat)):=by
 refine VC.body func161 rfl ntmps161 aU fun X0 w0 bj=>?_;refine af [0,1] ?_;refine af [0,5] ?_;refine af [0,5,6] ?_;refine ew [0] (fun aS _ (aO:Nat×Int) aE=>match aO with|(i,need)=>(i<=n)/\(0<=need)/\(need<=1+2*((n:Int)-i))/\((need=0/\jo ops n 1=i)\/(1<=need/\jo ops n 1=jo ops i need/\∃h,runs 0 (ops.take i)=some h/\need<=h))/\aE=(⟨22,(5,ae (i:Nat))::(6,ae need)::aS,[]⟩:St)) (fun (aO:Nat×Int)=>match aO with|(i,need)=>i) (n,1) ⟨(Nat.le_refl _),w8,w4,(.inr ⟨by decide,rfl,h,hr,h1⟩),rfl⟩ ?_;rintro⟨i,need⟩ _ ⟨hi,gZ,Zd,hinv,rfl⟩;refine af [0,5,6,9] ?_;refine au ?_ ?_<;>intro aJ bz
 ·obtain⟨hz,_⟩|⟨gI,E,h2,e1,e2⟩:=hinv
  ·omega
  have OQ:0<i:=(by rcases Nat.eq_zero_or_pos i with rfl|h;rw[List.take_zero,runs] at e1;cases e1;omega;exact h)
  have I:-9223372036854775808<=((i-1:Nat):Int):=(by omega)
  have O:((i-1:Nat):Int)<=9223372036854775807:=(by omega)
  have Z:(i:Int)-1=((i-1:Nat):Int):=(by omega)
  have aa:i-1<ops.length:=(by omega)
  have DO:=uj ops[i-1].k;obtain⟨h3,e3,e4,e5⟩:=I8 aa (by rw[show i-1+1=i by omega];exact e1);have rS:=(wX e4).1;have U:jo ops i need=if need+(bU ops[i-1].k-1)>0 then jo ops (i-1) (need+(bU ops[i-1].k-1)) else i-1:=by obtain⟨j,rfl⟩:∃j,i=j+1:=⟨i-1,by omega⟩;rw[jo,vo w4];rfl
  have oB:(need+(bU ops[i-1].k-1)=0/\jo ops n 1=i-1)\/(1<=need+(bU ops[i-1].k-1)/\jo ops n 1=jo ops (i-1) (need+(bU ops[i-1].k-1))/\∃h,runs 0 (ops.take (i-1))=some h/\need+(bU ops[i-1].k-1)<=h):=(by (by_cases hc:need+(bU ops[i-1].k-1)>0);exact .inr ⟨by omega,by rw[E,U,if_pos hc],h3,e3,by omega⟩;exact .inl ⟨by omega,by rw[E,U,if_neg hc]⟩)
  refine cz [0,5,6] ?_;refine aR 1 ?_ (h:=by exact(dR rfl ot bV (iI (r:=((i-1:Nat):Int)) (by rw[Z];exact wrap_i64 I O))));refine bA ?_;refine gl [0,5,6] ?_;refine cf (Fl ops[i-1].k) ?_;refine bA ?_;refine⟨((i-1),(need+(bU ops[i-1].k-1))),_,cn,aI,w4,w4,w4,oB,rfl⟩
 have aV:jo ops n 1=i:=(by rcases hinv with ⟨_,h⟩|⟨h,_⟩;exact h;omega)
 refine af [4] ?_;exact uL
theorem Q3(ls:List bf)(g:Nat)(E:List D)(S:List ah)(p:bf->Bool)(fy:∀args w,(callFunc g args).run Tryz.prog w = .ok (.enter g args) w)(hp:∀x∈ls,VC Tryz.prog G g (.agg (cO x)::E) S (fun r S'=>r=bP (p x)/\S'=S))(hlen:ls.length<=1000000):VC Tryz.prog G 162 [ap 5 cO ls,.eI (.func g) E] S (fun r S'=>r=ae (dK p ls)/\S'=S):=by
 refine VC.body func162 rfl ntmps162 aU fun X0 w0 bj=>?_;unfold cO at hp;exact XW
theorem ab7(o:bf)(nm:ByteArray)(b:Nat):VC Tryz.prog G 163 [.agg (cO o),cY b] [⟨b,9,1,[bg nm]⟩] (fun r S=>r=bP (mB nm o)/\S=[⟨b,9,1,[bg nm]⟩]):=by
 refine VC.body func163 rfl ntmps163 aU fun X0 w0 bj=>?_;unfold cO mB;refine bS ?_;refine OD.box (ds:=[_,_,_,_,_]) aq rfl rfl ot rfl rfl (fun b2=>?_);refine an 13 [1,2] ?_;refine aB 4 ?_;refine bZ 7 (fun I E=>?_) (fun I E=>?_)
 ·refine bu [3] ?_;refine aK [⟨b,9,1,[bg nm]⟩] ?_;first|exact⟨rfl,rfl⟩|(refine⟨vb ?_,rfl⟩;simp_all)
 refine bu [3] ?_;refine aK [⟨b,9,1,[bg nm]⟩] ?_;first|exact⟨rfl,rfl⟩|(refine⟨vb ?_,rfl⟩;simp_all)
theorem ab8(o:bf):VC Tryz.prog G 164 [.agg (cO o)] [] (fun r S=>r=bP (ik o)/\S=[]):=by
 refine VC.body func164 rfl ntmps164 aU fun X0 w0 bj=>?_;unfold cO ik;refine bS ?_;refine OD.box (ds:=[_,_,_,_,_]) aq rfl rfl ot rfl rfl (fun b1=>?_);refine an 12 [1] ?_;refine aB 4 ?_;refine bZ 6 (fun I E=>?_) (fun I E=>?_)
 ·refine bu [2] ?_;refine eZ ?_;first|exact⟨rfl,rfl⟩|(refine⟨vb ?_,rfl⟩;simp_all;done)|(refine⟨vb ?_,rfl⟩;simp_all;rfl)
 refine bu [2] ?_;refine eZ ?_;first|exact⟨rfl,rfl⟩|(refine⟨vb ?_,rfl⟩;simp_all;done)|(refine⟨vb ?_,rfl⟩;simp_all;rfl)
theorem TE(a b:List UInt8):VP Tryz.prog G 53 [ap 1 cB a,ap 1 cB b] (ae (compareBytes a b)):=by
 exact z143
theorem ab9:(Tryz.prog.info? 5).map (fun i=>(i.zero,i.size,i.bytes))=some (some (.int .u8 0),1,1):=by kernel_rfl
theorem Js(a:List UInt8)(ha:a.length<=1000):VP Tryz.prog G 70 [ap 1 cB a] (ap 1 cB a):=by
 refine VC.body func70 rfl ntmps70 aU fun X0 w0 bj=>?_;have cR:=dI;refine af [0] ?_;refine aB 1 ?_;refine OD.zM aq rfl rfl ot bV underlying86 (fun O yq=>?_);refine an 8 [0,4] ?_;refine au ?_ ?_<;>intro aJ bz
 ·exact Wz
 refine bS ?_;refine OD.zN aq rfl rfl runUnderlying86 sizeOf5 (fun b5=>?_);refine aH 1 ?_;refine OD.pn (ls:=([]:List UInt8)) (new:=a) (Sq:=[⟨b5,5,0*1,[]⟩]) pX xx aq rfl rfl underlying86 ab9 rfl w8 runUnderlying86 sizeOf5 ot (.inr ⟨b5,rfl,Nat.le_refl _,Nat.zero_le _,rfl⟩) (cZ (A:=[])) ot iF iF (fun E I S7 ql=>?_);exact z148
theorem FG(l:List Vl):(gg l).1.length<=100:=by
 unfold gg;split
 ·simp
 split
 ·simp
 split
 ·simp
 simpa using by omega
theorem afF(hk:k.length<=100)(h1:b.1.length<=100)(h2:b.2.length<=100):(oR k b).1.length<=100/\(oR k b).2.length<=100:=by unfold oR;split<;>exact⟨by assumption,by assumption⟩
theorem SJ(hk:k.length<=100)(h1:b.1.length<=100)(h2:b.2.length<=100):(sH k b).1.length<=100/\(sH k b).2.length<=100:=by unfold sH;split<;>exact⟨by assumption,by assumption⟩
theorem afG{E:Int}{eq not:Bool}(hk:k.length<=100)(h1:b.1.length<=100)(h2:b.2.length<=100):(vG E eq not k b).1.length<=100/\(vG E eq not k b).2.length<=100:=by
 unfold vG;have q1:=afF hk h1 h2;have q2:=SJ hk h1 h2;have I:=SJ hk q1.1 q1.2;cases(eq||(E==0)!=not)<;>cases(eq||(E==0)==not)
 ·exact⟨h1,h2⟩
 ·exact q1
 ·exact q2
 exact I
theorem zi{key:ByteArray}{not:Bool}(h1:b.1.length<=100)(h2:b.2.length<=100):(nE key ops not b).1.length<=100/\(nE key ops not b).2.length<=100:=by
 unfold nE;split
 ·exact⟨h1,h2⟩
 split
 ·exact⟨h1,h2⟩
 exact afG (FG _) h1 h2
theorem Ky(key:ByteArray):∀(f:Nat) (ops:List bf) (b:lE),b.1.length<=100->b.2.length<=100->(gz key f ops b).1.length<=100/\(gz key f ops b).2.length<=100
 | 0,_,b,h1,h2=>⟨h1,h2⟩
 | f+1,ops,b,h1,h2=>by
  rw[gz];split
  ·have q:=Ky key f (ops.take (jo ops (ops.length-1) 1)) b h1 h2;exact Ky key f _ _ q.1 q.2
  split
  ·exact zi h1 h2
  exact zi h1 h2
theorem Fm(h:runs 0 ops=some 1):1<=ops.length:=by
 cases ops with
 | nil=>rw[runs] at h;cases h
 | cons=>simp
theorem SK(h:runs 0 ops=some 1):∃(hn:ops.length-1<ops.length),runs 0 (ops.take (ops.length-1))=some (bU ops[ops.length-1].k):=by
 have hp:=Fm h;have aa:ops.length-1<ops.length:=(by omega)
 refine⟨aa,?_⟩;obtain⟨h',e1,e2,E⟩:=I8 aa (by rw[show ops.length-1+1=ops.length by omega,take_length];exact h);rw[e1];congr 1;omega
theorem afH(h:runs 0 ops=some 1)(hk:nU ops (ops.length-1)=3):jo ops (ops.length-1) 1<ops.length-1/\runs 0 (ops.take (jo ops (ops.length-1) 1))=some 1/\runs 0 ((ops.take (ops.length-1)).drop (jo ops (ops.length-1) 1))=some 1/\runs 0 (ops.take (ops.length-1))=some 2:=by
 obtain⟨hn,e⟩:=SK h;rw[vo hn] at hk;rw[hk] at e;obtain⟨q1,q2,E⟩:=SI (ops.length-1) 1 2 w4 e w8 w8;exact⟨q1,q2,E 0 w8,e⟩
variable {key:ByteArray}
theorem ahd{ls:List bf}{j:Nat}(h:j<ls.length):((ls.flatMap cO).drop (j*5+1)).take 3=cV ls[j].v:=by
 rw[<-drop_drop,vk nB,drop_eq_getElem_cons h,flatMap_cons];rfl
theorem ad4(hG:(2,[Value.int .i64 m])∈G)(key:ByteArray)(f:Nat)(hf:f<=40)(IH:∀(ops:List bf) (lo hi:List UInt8),ops.length<=f->runs 0 ops=some 1->(∀o∈ops,o.v.Ok)->lo.length<=100->hi.length<=100->∀b0,VC Tryz.prog G 143 [cY b0,bg key,ap 5 cO ops] [⟨b0,215,2,[ap 1 cB lo,ap 1 cB hi]⟩] (fun r S=>r = .da []/\S=[⟨b0,215,2,[.list 1 ((gz key f ops (lo,hi)).1.flatMap cB) (gz key f ops (lo,hi)).1.length,.list 1 ((gz key f ops (lo,hi)).2.flatMap cB) (gz key f ops (lo,hi)).2.length]⟩]))(ops:List bf)(lo hi:List UInt8)(hl:ops.length<=f+1)(qv:ops.length<=40)(hr:runs 0 ops=some 1)(aW:∀o∈ops,o.v.Ok)(e9:lo.length<=100)(eL:hi.length<=100)(b0:Nat):VC Tryz.prog G 143 [cY b0,bg key,ap 5 cO ops] [⟨b0,215,2,[ap 1 cB lo,ap 1 cB hi]⟩] (fun r S=>r = .da []/\S=[⟨b0,215,2,[.list 1 ((gz key (f+1) ops (lo,hi)).1.flatMap cB) (gz key (f+1) ops (lo,hi)).1.length,.list 1 ((gz key (f+1) ops (lo,hi)).2.flatMap cB) (gz key (f+1) ops (lo,hi)).2.length]⟩]):=by
 refine VC.body func143 rfl ntmps143 aU fun X0 w0 bj=>?_;have hp0:=Fm hr;obtain⟨gI,Zv⟩:=SK hr;have I:=vo gI;have cR:=dI;have DO:=uj ops[ops.length-1].k;refine bS ?_;refine OD.box (ds:=[_]) aq rfl rfl ot rfl rfl (fun b4=>?_);refine an 155 [0,2,4] ?_;refine cz [0,2,4,6] ?_;refine aR 2 ?_ (h:=by exact(dR rfl ot bV (iI (r:=((ops.length-1:Nat):Int)) (by rw[show((ops.length:Nat):Int)-1=((ops.length-1:Nat):Int) by omega];exact wrap_i64 w4 w4))));refine bA ?_;refine af [0,2,4,6,22] ?_;refine au ?_ ?_<;>intro aJ bz
 ·have lA:nU ops (ops.length-1)=3:=(by rw[I];omega)
  obtain⟨DY,YL,hm3,hm4⟩:=afH hr lA;have aV:(gz key (f+1) ops (lo,hi))=gz key f ((ops.take (ops.length-1)).drop (jo ops (ops.length-1) 1)) (gz key f (ops.take (jo ops (ops.length-1) 1)) (lo,hi)):=(by rw[gz,if_pos lA])
  have DZ:=Ky key f (ops.take (jo ops (ops.length-1) 1)) (lo,hi) e9 eL;refine cL [0,2,4,6,7] (ab6 ops w4 (ops.length-1) w4 2 hm4 w8) ?_;refine CD.seq ?_;refine nk 5 [0,2,4,6,7,26,27,30] ?_;refine aR 4 ?_ (h:=by exact(eE (l:=0) rfl ot trivial ⟨_,ot⟩ Hh));refine iz ?_;refine OD.call aq rfl rfl rfl call143 (IH (ops.take (jo ops (ops.length-1) 1)) (lo) (hi) (by simp only[length_drop,length_take];omega) YL (fun o ho=>aW o (mem_of_mem_take ho)) w4 w4 b0) ⟨ot,ot,ot,trivial⟩ (mS (k:=1) rfl) ?_;rintro _ _ ⟨rfl,rfl⟩;refine an 155 [0,2,4,6,7] ?_;refine CD.seq ?_;refine nk 6 [32,33,37] ?_;refine aR 5 ?_ (h:=by exact(eE (l:=(jo ops (ops.length-1) 1)) (h:=(ops.length-1)) rfl ot ⟨_,ot⟩ ⟨_,ot⟩ (agV nB (fun h=>by cases h) (fun h=>by cases h) runUnderlying42 sizeOf58 w4 w4)));refine iz ?_;refine OD.call aq rfl rfl rfl call143 (IH ((ops.take (ops.length-1)).drop (jo ops (ops.length-1) 1)) ((gz key f (ops.take (jo ops (ops.length-1) 1)) (lo,hi)).1) ((gz key f (ops.take (jo ops (ops.length-1) 1)) (lo,hi)).2) (by simp only[length_drop,length_take];omega) hm3 (fun o ho=>aW o (mem_of_mem_take (mem_of_mem_drop ho))) w4 w4 b0) ⟨ot,ot,ot,trivial⟩ (mS (k:=0) rfl) ?_;rintro _ _ ⟨rfl,rfl⟩;refine an 155 [] ?_;exact Yd
 have lA:¬nU ops (ops.length-1)=3:=(by rw[I];omega)
 refine af [0,2,4,6,8] ?_;refine CD.cut (fun aE=>∃(bw:List bf),∃(nt:Bool),((gz key (f+1) ops (lo,hi))=nE key bw nt (lo,hi))/\(1<=bw.length)/\(bw.length<=40)/\(∀o∈bw,o.v.Ok)/\(bw.length-1<bw.length)/\aE=(⟨155,[(0,cY b0),(2,ap 5 cO bw),(4,cY b4),(6,ae ((bw.length-1):Nat)),(8,bP nt)],[⟨b4,9,1,[bg key]⟩,⟨b0,215,2,[ap 1 cB lo,ap 1 cB hi]⟩]⟩:St)) ?_ ?_
 ·refine af [0,2,4,6,8,45] ?_;refine au ?_ ?_<;>intro aX cr
  ·have U:nU ops (ops.length-1)=5:=(by rw[I];simpa using aX)
   have gp:2<=ops.length:=(by rw[<-I,U] at Zv;have:=Fm Zv;rw[length_take] at this;omega)
   have A9:(gz key (f+1) ops (lo,hi))=nE key (ops.take (ops.length-1)) true (lo,hi):=(by rw[gz,if_neg lA,if_pos U])
   have uM:(ops.take (ops.length-1)).length=(ops.length-1):=(by rw[length_take];omega)
   refine cz [0,2,4,6,8] ?_;refine aR 2 ?_ (h:=by exact(eE (l:=0) rfl ot trivial ⟨_,ot⟩ Hh));refine bA ?_;refine gl [0,2,4,6,8] ?_;refine aR 1 ?_ (h:=by exact(dR rfl ot bV (iI (r:=((ops.length-1-1:Nat):Int)) (by rw[show((ops.length-1:Nat):Int)-1=((ops.length-1-1:Nat):Int) by omega];exact wrap_i64 w4 w4))));refine bA ?_;refine⟨_,(aI (h:=by repeat (first|exact trivial|refine⟨(by (repeat (first|exact fK|(apply gb;focus (first|rfl|(rw[uM];done)|(rw[aX];done)))|(apply fO;focus rfl)));done),?_⟩))),(ops.take (ops.length-1)),true,A9,w4,w4,(fun o ho=>aW o (mem_of_mem_take ho)),w4,rfl⟩
  have U:¬nU ops (ops.length-1)=5:=(by rw[I];simpa using aX)
  have A9:(gz key (f+1) ops (lo,hi))=nE key ops false (lo,hi):=(by rw[gz,if_neg lA,if_neg U])
  refine CD.skip ?_;refine⟨_,(aI (h:=by repeat (first|exact trivial|refine⟨(by (repeat (first|exact fK|(apply gb;focus (first|rfl|(rw[uM];done)|(rw[aX];done)))|(apply fO;focus rfl)));done),?_⟩))),ops,false,A9,hp0,qv,aW,gI,rfl⟩
 rintro _ ⟨bw,nt,aV,oY,aqW,kr,vI,rfl⟩;refine iH [0,2,4,6,8] (fun aS mQ aE=>(¬(bw.length≠3\/(nt=true/\bw[bw.length-1].k≠7)\/(bw[bw.length-1].k≠6/\bw[bw.length-1].k≠7)))/\aE=(⟨155,aS,mQ⟩:St)) ?_ ?_
 ·refine aB 3 ?_;refine bZ 53 (fun MG LK=>?_) (fun MG LK=>?_)
  ·refine bu [0,2,4,6,8,79] ?_;refine eO ?_;exact Ya
  refine aH 2 ?_;refine bZ 55 (fun uv aiy=>?_) (fun uv aiy=>?_)
  ·refine aH 9 ?_;refine bZ 64 (fun MQ LO=>?_) (fun MQ LO=>?_)
   ·refine bu [0,2,4,6,8,79] ?_;refine eO ?_;exact Ya
   refine aH 7 ?_;exact z37
  refine yC 6 ?_;refine aH 10 ?_;exact z37
 rintro _ ⟨sP,rfl⟩;refine aB 1 ?_;refine bN (eE (l:=0) (h:=2) rfl ot trivial ⟨_,bV⟩ Hh) ?_;refine bN (sy (ds:=[_]) rfl ⟨ot,trivial⟩) ?_;refine OD.call aq rfl rfl rfl call162 (Q3 (bw.take 2) 163 [cY b4] _ (mB key) call163 (fun h _=>ab7 h key b4) pC) ⟨ot,ot,trivial⟩ (mS (k:=0) rfl) ?_;rintro _ SS2 ⟨rfl,E⟩;rw[E];clear E;refine an 155 [0,2,6,8,9] ?_;refine aB 1 ?_;refine bN (eE (l:=0) (h:=2) rfl ot trivial ⟨_,bV⟩ Hh) ?_;refine OD.call aq rfl rfl rfl call162 (Q3 (bw.take 2) 164 [] [] ik call164 (fun h _=>ab8 h) pC) ⟨ot,tW,trivial⟩ (eX _) ?_;rintro _ SS2 ⟨rfl,E⟩;rw[E];clear E;refine an 155 [0,2,6,8,9,10] ?_;refine aB 3 ?_;refine bZ 89 (fun akS aiz=>?_) (fun akS aiz=>?_)
 ·refine bu [0,2,6,8,9,10,92] ?_;refine eO ?_;exact WT
 refine bu [0,2,6,8,9,10,92] ?_;refine au ?_ ?_<;>intro cN en
 ·exact WT
 have bL:¬((dK (mB key) (bw.take 2))<0\/(dK ik (bw.take 2))<0):=(by first|omega|(simp_all;omega)|simp_all)
 have hLb:=vg ik (bw.take 2);have HN:bw.length=3:=(by omega)
 rw[length_take] at hLb;have O:(dK ik (bw.take 2)).toNat<bw.length:=(by omega)
 have Ov:At bw=(gg [bw[(dK ik (bw.take 2)).toNat].v]).1:=(by unfold At;rw[getD_eq_getElem?_getD,getElem?_eq_getElem O];rfl)
 have VV:(gz key (f+1) ops (lo,hi))=vG (dK (mB key) (bw.take 2)) (bw[bw.length-1].k==6) nt (gg [bw[(dK ik (bw.take 2)).toNat].v]).1 (lo,hi):=(by rw[aV];unfold nE;rw[vo vI,if_neg sP,if_neg bL,Ov])
 have Zw:=ag1 hG [bw[(dK ik (bw.take 2)).toNat].v] iF (fun v hv=>by rw[mem_singleton] at hv;rw[hv];exact kr _ (getElem_mem O));have eo:=FG [bw[(dK ik (bw.take 2)).toNat].v];unfold My B6 at Zw;refine cz [0,2,6,8,9,11] ?_;refine aR 2 ?_ (h:=by exact(dL 5 (h:=by first|exact .l (j:=(dK ik (bw.take 2)).toNat) w4 O|exact .r (j:=(dK ik (bw.take 2)).toNat) w4 O)));refine aR 1 ?_ (h:=by exact(dz (mk:=Op.load 56) rfl ot (qG isAgg56 sizeOf56 rfl (ahd O))));refine cf (Zw) ?_;refine bA ?_;refine af [0,8,9,11,13] ?_;refine iH [0,8,9,11,13] (fun aS _ aE=>∃(b1:lE),(b1=(bif (bw[bw.length-1].k==6)||(((dK (mB key) (bw.take 2))==0)==nt) then oR (gg [bw[(dK ik (bw.take 2)).toNat].v]).1 (lo,hi) else (lo,hi)))/\(b1.1.length<=100)/\(b1.2.length<=100)/\aE=(⟨155,aS,[⟨b0,215,2,[ap 1 cB b1.1,ap 1 cB b1.2]⟩]⟩:St)) ?_ ?_
 ·refine aB 2 ?_;refine bZ 110 (fun Lw Z=>?_) (fun Lw Z=>?_)
  ·refine bu [0,8,9,11,13,115] ?_;refine eO ?_;exact X5
  refine aH 3 ?_;refine OD.still iN rfl (dR rfl ot ot (Fb underlying4)) ?_;refine an 155 [0,8,9,11,13,115] ?_;refine au ?_ ?_<;>intro dW fB
  ·exact X5
  have Dm:(lo,hi)=(bif (bw[bw.length-1].k==6)||(((dK (mB key) (bw.take 2))==0)==nt) then oR (gg [bw[(dK ik (bw.take 2)).toNat].v]).1 (lo,hi) else (lo,hi)):=(by rw[Lw,dW];rfl)
  refine CD.skip ?_;refine⟨_,aI,(lo,hi),Dm,(by first|exact eo|exact e9),eL,rfl⟩
 rintro _ ⟨b1,iM,aqX,aqY,rfl⟩;refine aB 2 ?_;refine bZ 129 (fun Lv ahe=>?_) (fun Lv ahe=>?_)
 ·refine bu [0,11,134] ?_;refine eO ?_;exact XU
 refine aH 3 ?_;refine OD.still iN rfl (dR rfl ot ot (RP underlying4)) ?_;refine an 155 [0,11,134] ?_;refine au ?_ ?_<;>intro iw oS
 ·exact XU
 have NQ:((bw[bw.length-1].k==6) || !(((dK (mB key) (bw.take 2))==0)==nt))=false:=(by rw[Lv,iw];rfl)
 have th:(gz key (f+1) ops (lo,hi))=b1:=(by rw[VV];unfold vG;rw[show((bw[bw.length-1].k==6)||((dK (mB key) (bw.take 2))==0)!=nt)=false from NQ,<-iM];rfl)
 refine aK [⟨b0,_,_,_⟩] ?_;refine⟨rfl,?_⟩;first|rw[th]|rw[aV]
theorem Vs(hG:(2,[Value.int .i64 m])∈G)(key:ByteArray):∀(f:Nat),f<=40->∀(ops:List bf) (lo hi:List UInt8),ops.length<=f->runs 0 ops=some 1->(∀o∈ops,o.v.Ok)->lo.length<=100->hi.length<=100->∀b0,VC Tryz.prog G 143 [cY b0,bg key,ap 5 cO ops] [⟨b0,215,2,[ap 1 cB lo,ap 1 cB hi]⟩] (fun r S=>r = .da []/\S=[⟨b0,215,2,[.list 1 ((gz key f ops (lo,hi)).1.flatMap cB) (gz key f ops (lo,hi)).1.length,.list 1 ((gz key f ops (lo,hi)).2.flatMap cB) (gz key f ops (lo,hi)).2.length]⟩]):=by
 intro f;induction f with
 | zero =>
  intro _ ops lo hi hl hr;have:=Fm hr;omega
 | succ f IH =>
  intro hf ops lo hi hl hr aW e9 eL b0;exact ad4 hG key f w4 (IH w4) ops lo hi hl w4 hr aW e9 eL b0
def je(l:List cy)(ops:List bf):lE×Int :=
 if fQ l≠0 then (([],[]),fQ l) else if ops.length=0 then (([],[]),0) else if (eu l ops).2≠0 then (([],[]),(eu l ops).2)
 else if (eu l ops).1≠1/\(eu l ops).1≠0 then (([],[]),4) else (gz (l.getD 0 ⟨⟨#[]⟩,0⟩).n ops.length ops ([],[]),0)
def OR(r:lE×Int):D:=.da [B6 r.1.1,B6 r.1.2,ae r.2]
theorem ad5{l:List cy}(h:fQ l=0):0<l.length:=by
 unfold fQ at h;split at h
 ·cases h
 omega
theorem aa5(h:jk ops=0):runs 0 ops=some 1:=by
  obtain⟨_,h0⟩:=xn h;have key:∀(l:List bf) (k:Int),fR k l=0->runs k l=some 1:=by
    intro l;induction l with
    | nil => intro k h; rw[fR] at h; split at h; · rename_i e; rw[runs, e]
             · cases h
    | cons o r ih =>
      intro k h;rw[fR] at h;split at h
      · rename_i e;rw[runs,if_pos e];exact ih _ h
      rename_i e;exact absurd h e
  exact key ops 0 h0
theorem acd(hm:(3,marksC)∈G)(hw:(1,wordsC)∈G)(ht:(0,typesC)∈G)(hG:(2,[Value.int .i64 m])∈G)(l:List cy)(hl:l.length<=6)(I:∀c∈l,c.n.size<=maxLen)(ops:List bf)(ho:∀o∈ops,o.nm.size<=maxLen)(aW:∀o∈ops,o.v.Ok):VP Tryz.prog G 127 [ap 2 cC l,ap 5 cO ops] (OR (je l ops)):=by
 refine VC.body func127 rfl ntmps127 aU fun X0 w0 bj=>?_;have cR:=dI;have fw:=FI hm hw ht l w4 I;have Z:=Ks hm hw ht l hl I ops ho;unfold qc at Z;unfold OR B6;refine af [0,1] ?_;refine cL [0,1,7] (fw) ?_;refine af [0,1,7,13] ?_;refine au ?_ ?_<;>intro aJ bz
 ·have h0:fQ l≠0:=(by simpa using aJ)
  have aV:je l ops=(([],[]),fQ l):=(by unfold je;rw[if_pos h0])
  exact GI
 have h0:¬fQ l≠0:=(by simpa using aJ)
 have E:=ad5 (Classical.not_not.1 h0);refine af [0,1,17] ?_;refine au ?_ ?_<;>intro aX cr
 ·have h1:ops.length=0:=(by simpa using aX)
  have aV:je l ops=(([],[]),0):=(by unfold je;rw[if_neg h0,if_pos h1])
  exact GI
 have h1:¬ops.length=0:=(by simpa using aX)
 refine cL [0,1,6,8] (Z) ?_;refine af [0,1,6,8,25] ?_;refine au ?_ ?_<;>intro bL cJ
 ·have h2:(eu l ops).2≠0:=(by simpa using bL)
  have aV:je l ops=(([],[]),(eu l ops).2):=(by unfold je;rw[if_neg h0,if_neg h1,if_pos h2])
  exact GI
 have h2:¬(eu l ops).2≠0:=(by simpa using bL)
 obtain⟨k1,k2,k3⟩:=FJ (Classical.not_not.1 h2);have A9:=aa5 k2;obtain⟨qv,_⟩:=xn k2;refine aB 3 ?_;refine bZ 29 (fun akT O=>?_) (fun akT O=>?_)
 ·refine bu [0,1,32] ?_;refine au ?_ ?_<;>intro cN en
  ·have h3:(eu l ops).1≠1/\(eu l ops).1≠0:=(by simp_all)
   have aV:je l ops=(([],[]),4):=(by unfold je;rw[if_neg h0,if_neg h1,if_neg h2,if_pos h3])
   exact GI
  have h3:¬((eu l ops).1≠1/\(eu l ops).1≠0):=(by simp_all)
  have aV:je l ops=(gz l[0].n ops.length ops ([],[]),0):=(by unfold je;rw[if_neg h0,if_neg h1,if_neg h2,if_neg h3,getD_eq_getElem?_getD,getElem?_eq_getElem E];rfl)
  refine aB 1 ?_;refine OD.box (ds:=[_,_]) aq rfl rfl ot rfl rfl (fun U=>?_);refine OD.wk (Wk.W8 (k:=0) (sz:=1) (sz':=1) rfl) ?_;refine an 50 [0,1,9] ?_;refine aB 2 ?_;refine bN (nV (mk:=Op.indexAddr 39) rfl ot bV (by first|exact oF runUnderlying39 sizeOf93 (j:=0) rfl E|exact oI runUnderlying39 sizeOf93 (j:=0) rfl E)) ?_;refine aH 3 ?_;refine OD.call aq rfl rfl rfl call143 (Vs hG l[0].n ops.length qv ops [] [] (Nat.le_refl _) A9 aW (Nat.zero_le _) (Nat.zero_le _) U) ⟨ot,ot,ot,trivial⟩ (mS (k:=0) rfl) ?_;rintro _ _ ⟨rfl,rfl⟩;refine an 50 [9] ?_;refine af [4,5,6] ?_;exact pG
 refine bu [0,1,32] ?_;refine gm ?_;have h3:¬((eu l ops).1≠1/\(eu l ops).1≠0):=(by simp_all)
 have aV:je l ops=(gz l[0].n ops.length ops ([],[]),0):=(by unfold je;rw[if_neg h0,if_neg h1,if_neg h2,if_neg h3,getD_eq_getElem?_getD,getElem?_eq_getElem E];rfl)
 refine aB 1 ?_;refine OD.box (ds:=[_,_]) aq rfl rfl ot rfl rfl (fun U=>?_);refine OD.wk (Wk.W8 (k:=0) (sz:=1) (sz':=1) rfl) ?_;refine an 50 [0,1,9] ?_;refine aB 2 ?_;refine bN (nV (mk:=Op.indexAddr 39) rfl ot bV (by first|exact oF runUnderlying39 sizeOf93 (j:=0) rfl E|exact oI runUnderlying39 sizeOf93 (j:=0) rfl E)) ?_;refine aH 3 ?_;refine OD.call aq rfl rfl rfl call143 (Vs hG l[0].n ops.length qv ops [] [] (Nat.le_refl _) A9 aW (Nat.zero_le _) (Nat.zero_le _) U) ⟨ot,ot,ot,trivial⟩ (mS (k:=0) rfl) ?_;rintro _ _ ⟨rfl,rfl⟩;refine an 50 [9] ?_;refine af [4,5,6] ?_;exact uL

end Go.Proofs.YtbplamgacibdaaaGreatDoor.Ex
namespace Go.Proofs.YtbplamgacibdaaaGreatDoor.Tr
open List
open Go.Proofs.Tryz
open Go.Lib (compareBytes)
variable {i j:Nat}
abbrev K:=List UInt8
variable {a b c k low:K}
theorem Ia(a b:UInt8)(x y:K):compareBytes (a::x) (b::y)=if a<b then -1 else if b<a then 1 else compareBytes x y:=by rw[compareBytes]
theorem u8{a b:UInt8}:a<b↔a.toNat<b.toNat:=UInt8.lt_iff_toNat_lt
theorem yO:∀(x y:K),(compareBytes x y = -1/\compareBytes y x=1)\/(compareBytes x y=0/\x=y)\/(compareBytes x y=1/\compareBytes y x = -1)
 | [],[]=>.inr (.inl ⟨rfl,rfl⟩)
 | [],_::_=>.inl ⟨rfl,rfl⟩
 | _::_,[]=>.inr (.inr ⟨rfl,rfl⟩)
 | a::x,b::y=>by
  rw[Ia,Ia];by_cases h1:a<b
  ·have h2:¬b<a:=(by rw[u8] at h1 |-;omega)
   rw[if_pos h1,if_neg h2,if_pos h1];exact .inl ⟨rfl,rfl⟩
  by_cases h2:b<a
  ·rw[if_neg h1,if_pos h2,if_pos h2];exact .inr (.inr ⟨rfl,rfl⟩)
  rw[if_neg h1,if_neg h2,if_neg h2,if_neg h1];have qX:a=b:=by
   apply UInt8.toNat_inj.1;rw[u8] at h1 h2;omega
  subst qX;rcases yO x y with h|⟨h,e⟩|h
  ·exact .inl h
  ·exact .inr (.inl ⟨h,by rw[e]⟩)
  exact .inr (.inr h)
theorem V5:∀(x y z:K),compareBytes x y = -1->compareBytes y z = -1->compareBytes x z = -1
 | [],[],_,h,_=>by cases h
 | _::_,[],_,h,_=>by cases h
 | _,_::_,[],_,h=>by cases h
 | [],_::_,_::_,_,_=>rfl
 | a::x,b::y,c::z,h1,h2=>by
  rw[Ia] at h1 h2 |-;by_cases p:a<b
  ·by_cases q:b<c
   ·rw[if_pos (by rw[u8] at p q |-;omega)]
   rw[if_neg q] at h2;by_cases r:c<b
   ·rw[if_pos r] at h2;cases h2
   rw[if_pos (by rw[u8] at p q r |-;omega)]
  rw[if_neg p] at h1;by_cases p':b<a
  ·rw[if_pos p'] at h1;cases h1
  rw[if_neg p'] at h1;by_cases q:b<c
  ·rw[if_pos (by rw[u8] at p p' q |-;omega)]
  rw[if_neg q] at h2;by_cases r:c<b
  ·rw[if_pos r] at h2;cases h2
  rw[if_neg r] at h2;rw[if_neg (by rw[u8] at p p' q r |-;omega),if_neg (by rw[u8] at p p' q r |-;omega)];exact V5 x y z h1 h2
def bG(a b:K):Prop:=compareBytes a b<0
instance (a b:K):Decidable (bG a b):=inferInstanceAs (Decidable (_<_))
theorem Kz:bG a b↔compareBytes a b = -1:=by
 unfold bG;rcases yO a b with ⟨h,_⟩|⟨h,_⟩|⟨h,_⟩<;>rw[h]<;>decide
theorem Va:0<compareBytes a b↔bG b a:=by
 unfold bG;rcases yO a b with ⟨h,h'⟩|⟨h,rfl⟩|⟨h,h'⟩
 ·rw[h,h'];decide
 ·rw[h]
 rw[h,h'];decide
theorem La(a:K):¬bG a []:=by
 unfold bG;cases a with
 | nil=>decide
 | cons x y=>show ¬(1:Int)<0;decide
theorem jS(a:K):¬bG a a:=fun h=>by
 rcases yO a a with ⟨h1,h2⟩|⟨h1,_⟩|⟨h1,h2⟩
 ·omega
 ·unfold bG at h;omega
 omega
theorem mX(h1:bG a b)(h2:bG b c):bG a c:=Kz.2 (V5 a b c (Kz.1 h1) (Kz.1 h2))
theorem vt(h:bG a b):¬bG b a:=fun h'=>jS a (mX h h')
theorem zC(a b:K):bG a b\/a=b\/bG b a:=by
 unfold bG;rcases yO a b with ⟨h,_⟩|⟨_,h⟩|⟨_,h⟩
 ·exact .inl w4
 ·exact .inr (.inl h)
 exact .inr (.inr w4)
theorem LP:compareBytes a b=0↔a=b:=⟨fun h=>by
 rcases yO a b with ⟨h1,_⟩|⟨_,h1⟩|⟨h1,_⟩
 ·omega
 ·exact h1
 ·omega,fun h=>by
 subst h;rcases yO a a with ⟨h1,h2⟩|⟨h1,_⟩|⟨h1,h2⟩
 ·omega
 ·exact h1
 omega⟩
theorem P1(h1:¬bG b a)(h2:bG b c):bG a c:=by
 rcases zC a b with h|rfl|h
 ·exact mX h h2
 ·exact h2
 exact absurd h h1
theorem aaI(h1:bG a b)(h2:¬bG c b):bG a c:=by
 rcases zC b c with h|rfl|h
 ·exact mX h1 h
 ·exact h1
 exact absurd h h2
theorem V6(h1:¬bG b a)(h2:¬bG c b):¬bG c a:=fun h=>by
 rcases zC a b with h'|rfl|h'
 ·exact h2 (mX h h')
 ·exact h2 h
 exact h1 h'
theorem rm{α β:Type}{l:List α}{f g:α->List β}(h:∀a∈l,f a=g a):l.flatMap f=l.flatMap g:=by
 induction l with
 | nil=>rfl
 | cons a r ih=>rw[flatMap_cons,flatMap_cons,h a mem_cons_self,ih fun x hx=>h x (mem_cons_of_mem _ hx)]
structure c8 where
 leaf:Bool
 keys:List K
 kids:List Int
 high:K
 next:Int
variable {p:c8}
def akU:c8:=⟨false,[],[],[],0⟩
structure aF where
 ag:List c8
 root:Int
def aF.pg(t:aF)(i:Int):c8:=t.ag.getD i.toNat akU
def nL:aF:=⟨[⟨true,[],[],[],-1⟩],0⟩
structure eN (p:c8) (many:Int):Prop where
 ec:p.keys.length<=4
 hlen:p.high.length<=100
 xO:-1<=p.next
 xB:p.next<many
 xP:p.next<0↔p.high=[]
 leaf:p.leaf=true->p.kids.length=p.keys.length
 node:p.leaf=false->p.kids.length=p.keys.length+1/\p.keys≠[]
 lI:∀k∈p.keys,1<=k.length/\k.length<=100
 qJ:p.high≠[]->∀k∈p.keys,bG k p.high
 kv:p.keys.Pairwise bG
 aA:∀n∈p.kids,0<=n
 vL:p.leaf=false->∀n∈p.kids,n<many
theorem eN.more{m E:Int}(h:eN p m)(hm:m<=E):eN p E :=
 ⟨h.ec,h.hlen,h.xO,by have:=h.xB;omega,h.xP,h.leaf,h.node,h.lI,h.qJ,h.kv,h.aA,fun hl n hn=>by have:=h.vL hl n hn;omega⟩
def iP(low:K)(p:c8)(j:Nat):K:=if j=0 then low else p.keys.getD (j-1) []
def iA(p:c8)(j:Nat):K:=p.keys.getD j p.high
def dX(t:aF):Nat->Int->K->K->Prop
 | 0,i,low,high=>(0<=i/\i<t.ag.length)/\(t.pg i).leaf=true/\(t.pg i).high=high/\∀k∈(t.pg i).keys,¬bG k low
 | h+1,i,low,high=>(0<=i/\i<t.ag.length)/\(t.pg i).leaf=false/\(t.pg i).high=high/\(∀k∈(t.pg i).keys,¬bG k low) /\
  ∀j (hj:j<(t.pg i).kids.length),dX t h (t.pg i).kids[j] (iP low (t.pg i) j) (iA (t.pg i) j)
def ids(t:aF):Nat->Int->List Int
 | 0,i=>[i]
 | h+1,i=>i::(t.pg i).kids.flatMap (ids t h)
def cH(t:aF):Nat->Int->List Int
 | 0,i=>[i]
 | d+1,i=>(t.pg i).kids.flatMap (cH t d)
def fi(p:c8):List (K×Int):=p.keys.zip p.kids
def eA(t:aF):Nat->Int->List (K×Int)
 | 0,i=>fi (t.pg i)
 | h+1,i=>(t.pg i).kids.flatMap (eA t h)
def fk(t:aF):List Int->Int->Prop
 | [],_=>True
 | [i],e=>(t.pg i).next=e
 | i::j::r,e=>(t.pg i).next=j/\fk t (j::r) e
structure Valid (t:aF) (h:Nat):Prop where
 pos:1<=t.ag.length
 oo:t.ag.length<=4000
 fM:∀p∈t.ag,eN p t.ag.length
 ok:dX t h t.root [] []
 Au:(ids t h t.root).Nodup
 all:(ids t h t.root).length=t.ag.length
 pM:∀d,d<=h->fk t (cH t d t.root) (-1)
theorem dX.idx{t:aF}:∀{h:Nat} {i:Int} {low high:K},dX t h i low high->0<=i/\i<t.ag.length
 | 0,_,_,_,h=>h.1
 | _+1,_,_,_,h=>h.1
theorem dX.high{t:aF}:∀{h:Nat} {i:Int} {low high:K},dX t h i low high->(t.pg i).high=high
 | 0,_,_,_,h=>h.2.2.1
 | _+1,_,_,_,h=>h.2.2.1
theorem vD{t:aF}{i:Int}(h:0<=i/\i<t.ag.length):t.pg i=t.ag[i.toNat]'w4:=by
 unfold aF.pg;rw[getD_eq_getElem?_getD,getElem?_eq_getElem w4];rfl
theorem jV{t:aF}{i:Int}(h:0<=i/\i<t.ag.length):t.pg i∈t.ag:=by rw[vD h];exact getElem_mem _
theorem tV{t:aF}(h:Nat)(i:Int):i∈ids t h i:=by cases h<;>simp[ids]
theorem frame{t u:aF}:∀(h:Nat) (i:Int),(∀j∈ids t h i,u.pg j=t.pg j)->ids u h i=ids t h i/\eA u h i=eA t h i/\∀d,d<=h->cH u d i=cH t d i
 | 0,i,hp=>by
  have h0:=hp i (tV 0 i);refine⟨rfl,by unfold eA;rw[h0],fun d hd=>?_⟩;obtain rfl:d=0:=(by omega)
  rfl
 | h+1,i,hp=>by
  have h0:=hp i (tV _ i);have hs:∀j∈(t.pg i).kids,ids u h j=ids t h j/\eA u h j=eA t h j/\∀d,d<=h->cH u d j=cH t d j:=fun j hj=>frame h j fun x hx=>hp x (by
   rw[ids];exact mem_cons_of_mem _ (mem_flatMap.2 ⟨j,hj,hx⟩))
  refine⟨?_,?_,fun d hd=>?_⟩
  ·rw[ids,ids,h0];congr 1;exact rm (fun j hj=>(hs j hj).1)
  ·rw[eA,eA,h0];exact rm (fun j hj=>(hs j hj).2.1)
  cases d with
  | zero=>rfl
  | succ d=>rw[cH,cH,h0];exact rm (fun j hj=>(hs j hj).2.2 d w4)
theorem dX.frame{t u:aF}(hl:t.ag.length<=u.ag.length):∀{h:Nat} {i:Int} {low high:K},dX t h i low high->(∀j∈ids t h i,u.pg j=t.pg j)->dX u h i low high
 | 0,i,low,high,⟨q1,q2,E,I⟩,hp=>by
  have h0:=hp i (tV 0 i);exact⟨⟨q1.1,by omega⟩,by rw[h0];exact q2,by rw[h0];exact E,by rw[h0];exact I⟩
 | h+1,i,low,high,⟨q1,q2,E,I,O⟩,hp=>by
  have h0:=hp i (tV _ i);refine⟨⟨q1.1,by omega⟩,by rw[h0];exact q2,by rw[h0];exact E,by rw[h0];exact I,?_⟩;rw[h0];exact fun j hj=>dX.frame hl (O j hj) fun x hx=>hp x (by rw[ids];exact mem_cons_of_mem _ (mem_flatMap.2 ⟨_,getElem_mem hj,hx⟩))
theorem dX.ids{t:aF}:∀{h:Nat} {i:Int} {low high:K},dX t h i low high->∀j∈Tr.ids t h i,0<=j/\j<t.ag.length
 | 0,i,low,high,q,j,hj=>by
  rw[Tr.ids,mem_singleton] at hj;subst hj;exact q.1
 | h+1,i,low,high,⟨q1,q2,I,O,E⟩,j,hj=>by
  rw[Tr.ids] at hj;rcases mem_cons.1 hj with rfl|hj
  ·exact q1
  obtain⟨x,hx,hj⟩:=mem_flatMap.1 hj;obtain⟨n,hn,rfl⟩:=mem_iff_getElem.1 hx;exact dX.ids (E n hn) j hj

theorem LS{α:Type}{p:α->Bool}:∀{l:List α} {i:Nat} (h:i<(l.takeWhile p).length),∃(h':i<l.length),p l[i]=true
 | a::r,i,h=>by
  rw[takeWhile_cons] at h;by_cases ha:p a=true
  ·rw[if_pos ha] at h;cases i with
   | zero=>exact⟨by simp,ha⟩
   | succ i =>
    obtain⟨h',q⟩:=LS (l:=r) (i:=i) oV;exact⟨by simpa using h',by simpa using q⟩
  rw[if_neg ha] at h;simp at h
theorem Lb{α:Type}{p:α->Bool}:∀{l:List α} (h:(l.takeWhile p).length<l.length),p l[(l.takeWhile p).length]=false
 | a::r,h=>by
  by_cases ha:p a=true
  ·have e:((a::r).takeWhile p).length=(r.takeWhile p).length+1:=(by rw[takeWhile_cons,if_pos ha];rfl)
   have h2:(r.takeWhile p).length<r.length:=(by rw[e] at h;simpa using h)
   have:=Lb (l:=r) h2;simp only[e,getElem_cons_succ];exact this
  have e:((a::r).takeWhile p).length=0:=(by rw[takeWhile_cons,if_neg ha];rfl)
  simp only[e,getElem_cons_zero];simpa using ha
theorem V7{α:Type}(p:α->Bool)(l:List α):(l.takeWhile p).length<=l.length:=(takeWhile_sublist p).length_le
def gL(keys:List K)(k:K):Nat:=(keys.takeWhile fun x=>decide (bG x k)).length
def nc(keys:List K)(k:K):Nat:=(keys.takeWhile fun x=>decide (¬bG k x)).length
def aQ(p:c8)(k:K):Nat:=if p.leaf=true then gL p.keys k else nc p.keys k
theorem BC{keys:List K}(h:i<gL keys k):∃(h':i<keys.length),bG keys[i] k:=by
 obtain⟨h',q⟩:=LS h;exact⟨h',by simpa using q⟩
theorem Bp{keys:List K}(h:gL keys k<keys.length):¬bG keys[gL keys k] k:=by
 exact of_decide_eq_false (Lb h)
theorem zj(keys:List K)(k:K):gL keys k<=keys.length:=V7 _ _
theorem JH{keys:List K}(h:i<nc keys k):∃(h':i<keys.length),¬bG k keys[i]:=by
 obtain⟨h',q⟩:=LS h;exact⟨h',by simpa using q⟩
theorem I9{keys:List K}(h:nc keys k<keys.length):bG k keys[nc keys k]:=by
 exact Classical.not_not.1 (of_decide_eq_false (Lb h))
theorem BD(keys:List K)(k:K):nc keys k<=keys.length:=V7 _ _
theorem nA{keys:List K}(h:keys.Pairwise bG)(E:i<j)(hj:j<keys.length):bG keys[i] keys[j]:=pairwise_iff_getElem.1 h i j w4 hj E
theorem F4(h:j<p.keys.length):iA p j=p.keys[j]:=by unfold iA;rw[getD_eq_getElem?_getD,getElem?_eq_getElem h];rfl
theorem KA(h:p.keys.length<=j):iA p j=p.high:=by unfold iA;rw[getD_eq_getElem?_getD,getElem?_eq_none h];rfl
theorem FL(h:0<j)(h':j-1<p.keys.length):iP low p j=p.keys[j-1]:=by unfold iP;rw[if_neg w4,getD_eq_getElem?_getD,getElem?_eq_getElem h'];rfl
def lT(low high k:K):Prop:=¬bG k low/\(high≠[]->bG k high)
theorem uk(k:K):lT [] [] k:=⟨La k,fun h=>absurd rfl h⟩
theorem down{n:Int}(hp:eN p n)(hl:p.leaf=false){high:K}(E:p.high=high)(hk:lT low high k):aQ p k<p.kids.length/\lT (iP low p (aQ p k)) (iA p (aQ p k)) k:=by
 have e:aQ p k=nc p.keys k:=(by unfold aQ;rw[if_neg (by rw[hl];decide)])
 have hle:=BD p.keys k;rw[e];refine⟨by rw[(hp.node hl).1];omega,?_,?_⟩
 ·rcases Nat.eq_zero_or_pos (nc p.keys k) with h0|h0
  ·rw[h0];exact hk.1
  obtain⟨h',q⟩:=JH (keys:=p.keys) (k:=k) (i:=nc p.keys k-1) w4;rw[FL h0 h'];exact q
 intro hne;by_cases aa:nc p.keys k<p.keys.length
 ·rw[F4 aa];exact I9 aa
 rw[KA w4] at hne |-;rw[E] at hne |-;exact hk.2 hne
def aL(t:aF)(k:K):Nat->Int->Int
 | 0,i=>i
 | h+1,i=>aL t k h ((t.pg i).kids.getD (aQ (t.pg i) k) 0)
def jv(t:aF)(k:K):Nat->Int->List Int
 | 0,i=>[i]
 | h+1,i=>i::jv t k h ((t.pg i).kids.getD (aQ (t.pg i) k) 0)
theorem Q4(t:aF)(k:K):∀(h:Nat) (i:Int),(jv t k h i).getLast?=some (aL t k h i)
 | 0,i=>rfl
 | h+1,i=>by
  have:=Q4 t k h ((t.pg i).kids.getD (aQ (t.pg i) k) 0);rw[jv,aL,getLast?_cons,this];rfl
theorem wY(t:aF):∀(h:Nat) (i:Int),eA t h i=(cH t h i).flatMap fun l=>fi (t.pg l)
 | 0,i=>by simp[eA,cH]
 | h+1,i=>by
  rw[eA,cH,flatMap_assoc];exact rm fun j _=>wY t h j
theorem zip_fst{α β:Type}:∀{a:List α} {b:List β},b.length=a.length->(a.zip b).map Prod.fst=a
 | [],_,_=>by simp
 | x::a,[],h=>by simp at h
 | x::a,y::b,h=>by simp[zip_fst (a:=a) (b:=b) oV]
theorem SL{x:K×Int}(h:x∈fi p):x.1∈p.keys:=(of_mem_zip h).1
theorem uc(h:j<p.kids.length):p.kids.getD j 0=p.kids[j]:=by rw[getD_eq_getElem?_getD,getElem?_eq_getElem h];rfl
variable {t:aF} {n:Int}
theorem aa6(hp:eN p n)(hl:p.leaf=false){high:K}(I:p.high=high)(E:∀k∈p.keys,¬bG k low)(hj:j<p.kids.length)(hk:lT (iP low p j) (iA p j) k):lT low high k:=by
 have hn:=(hp.node hl).1;refine⟨?_,fun hne=>?_⟩
 ·rcases Nat.eq_zero_or_pos j with rfl|h0
  ·exact hk.1
  rw[FL h0 w4] at hk;exact V6 (E _ (getElem_mem _)) hk.1
 by_cases aa:j<p.keys.length
 ·rw[F4 aa] at hk;have hm:=getElem_mem aa;have h2:=hk.2 (by intro e;have:=(hp.lI _ hm).1;rw[e] at this;simp at this);exact mX h2 (by rw[<-I];exact hp.qJ (by rw[I];exact hne) _ hm)
 rw[KA w4,I] at hk;exact hk.2 hne
theorem Ja(hp:eN p n)(hl:p.leaf=false)(I:i<j)(hj:j<p.kids.length)(ha:lT (iP low p i) (iA p i) a)(hb:lT (iP low p j) (iA p j) b):bG a b:=by
 have hn:=(hp.node hl).1;have E:i<p.keys.length:=(by omega)
 rw[F4 E] at ha;have h1:=ha.2 (by intro e;have:=(hp.lI _ (getElem_mem E)).1;rw[e] at this;simp at this);rw[FL w4 w4] at hb;refine aaI h1 ?_;refine V6 ?_ hb.1;rcases Nat.lt_or_ge i (j-1) with h|h
 ·exact vt (nA hp.kv h w4)
 have:j-1=i:=(by omega)
 simp only[this];exact jS _
theorem KB(hp:∀p∈t.ag,eN p n):∀{h:Nat} {i:Int} {low high:K},dX t h i low high->(eA t h i).Pairwise (fun x y=>bG x.1 y.1)/\∀x∈eA t h i,lT low high x.1
 | 0,i,low,high,ok=>by
  obtain⟨q1,q2,E,I⟩:=ok;have po:=hp _ (jV q1);rw[eA];refine⟨?_,fun x hx=>⟨I _ (SL hx),fun hne=>by rw[<-E] at hne |-;exact po.qJ hne _ (SL hx)⟩⟩;have h1:((fi (t.pg i)).map Prod.fst).Pairwise bG:=(by unfold fi;rw[zip_fst (po.leaf q2)];exact po.kv)
  exact pairwise_map.1 h1
 | h+1,i,low,high,ok=>by
  obtain⟨q1,q2,E,I,O⟩:=ok;have po:=hp _ (jV q1);rw[eA];have hk:∀j (hj:j<(t.pg i).kids.length),(eA t h (t.pg i).kids[j]).Pairwise (fun x y=>bG x.1 y.1)/\∀x∈eA t h (t.pg i).kids[j],lT (iP low (t.pg i) j) (iA (t.pg i) j) x.1:=fun j hj=>KB hp (O j hj);refine⟨pairwise_flatMap.2 ⟨fun a ha=>?_,?_⟩,fun x hx=>?_⟩
  ·obtain⟨j,hj,rfl⟩:=mem_iff_getElem.1 ha;exact(hk j hj).1
  ·refine pairwise_iff_getElem.2 fun a b ha hb qX x hx y hy=>?_;exact Ja po q2 qX hb ((hk a ha).2 x hx) ((hk b hb).2 y hy)
  obtain⟨c,hc,hx⟩:=mem_flatMap.1 hx;obtain⟨j,hj,rfl⟩:=mem_iff_getElem.1 hc;exact aa6 po q2 E I hj ((hk j hj).2 x hx)
theorem BE(hp:∀p∈t.ag,eN p n){k:K}:∀{h:Nat} {i:Int} {low high:K},dX t h i low high->lT low high k ->
  ∃pre post lo hi,cH t h i=pre++aL t k h i::post/\(∀l∈pre,∀x∈fi (t.pg l),bG x.1 k)/\(∀l∈post,∀x∈fi (t.pg l),bG k x.1)/\dX t 0 (aL t k h i) lo hi/\lT lo hi k
 | 0,i,low,high,ok,hk=>⟨[],[],low,high,rfl,(fun _ h=>by cases h),(fun _ h=>by cases h),ok,hk⟩
 | h+1,i,low,high,ok,hk=>by
  obtain⟨q1,q2,I,O,E⟩:=ok;have po:=hp _ (jV q1);obtain⟨d1,d2⟩:=down po q2 I hk;obtain⟨pre,post,lo,hi,e,h1,h2,h3,h4⟩:=BE hp (E _ d1) d2;have hm:∀j (hj:j<(t.pg i).kids.length),∀l∈cH t h (t.pg i).kids[j],∀x∈fi (t.pg l),lT (iP low (t.pg i) j) (iA (t.pg i) j) x.1:=fun j hj l hl x hx =>
   (KB hp (E j hj)).2 x (by rw[wY];exact mem_flatMap.2 ⟨l,hl,hx⟩)
  refine⟨((t.pg i).kids.take (aQ (t.pg i) k)).flatMap (cH t h)++pre,post++((t.pg i).kids.drop (aQ (t.pg i) k+1)).flatMap (cH t h),lo,hi,?_,?_,?_,?_,h4⟩
  ·rw[cH];conv=>lhs;rw[<-take_append_drop (aQ (t.pg i) k) (t.pg i).kids]
   rw[drop_eq_getElem_cons d1,flatMap_append,flatMap_cons,e,aL,uc d1];simp
  ·intro l hl x hx;rcases mem_append.1 hl with hl|hl
   ·obtain⟨c,hc,hl⟩:=mem_flatMap.1 hl;obtain⟨j,hj,rfl⟩:=mem_iff_getElem.1 hc;rw[length_take] at hj;rw[getElem_take] at hl;exact Ja po q2 (show j<aQ (t.pg i) k by omega) d1 (hm j w4 l hl x hx) d2
   exact h1 l hl x hx
  ·intro l hl x hx;rcases mem_append.1 hl with hl|hl
   ·exact h2 l hl x hx
   obtain⟨c,hc,hl⟩:=mem_flatMap.1 hl;obtain⟨j,hj,rfl⟩:=mem_iff_getElem.1 hc;rw[length_drop] at hj;rw[getElem_drop] at hl;exact Ja po q2 (show aQ (t.pg i) k<aQ (t.pg i) k+1+j by omega) w4 d2 (hm _ w4 l hl x hx)
  rw[aL,uc d1];exact h3
theorem ace(hp:∀p∈t.ag,eN p n){h:Nat}{i:Int}{high:K}(ok:dX t h i low high)(hk:lT low high k) :
  ∃pre post,cH t h i=pre++aL t k h i::post/\(eA t h i).filter (fun x=>decide (¬bG x.1 k))=(fi (t.pg (aL t k h i))).drop (aQ (t.pg (aL t k h i)) k)++post.flatMap fun l=>fi (t.pg l):=by
 obtain⟨pre,post,lo,hi,e,h1,h2,h3,h4⟩:=BE hp ok hk;refine⟨pre,post,e,?_⟩;have po:=hp _ (jV h3.1);rw[wY,e,flatMap_append,flatMap_cons,filter_append,filter_append];rw[filter_eq_nil_iff.2 (by
  intro x hx;obtain⟨l,hl,hx⟩:=mem_flatMap.1 hx;simpa using h1 l hl x hx),nil_append]
 congr 1
 ·have fT:=h3.2.1;rw[show aQ (t.pg (aL t k h i)) k=gL (t.pg (aL t k h i)).keys k by unfold aQ;rw[if_pos fT]];generalize I:t.pg (aL t k h i)=p at *;have E:=take_append_drop (gL p.keys k) (fi p);conv=>lhs;rw[<-E]
  have hlen:=po.leaf fT;rw[filter_append,filter_eq_nil_iff.2 (by
   intro x hx;obtain⟨j,hj,rfl⟩:=mem_iff_getElem.1 hx;rw[length_take] at hj;obtain⟨h',q⟩:=BC (keys:=p.keys) (k:=k) (i:=j) w4;rw[getElem_take];simpa[fi] using q),nil_append,filter_eq_self.2]
  intro x hx;obtain⟨j,hj,rfl⟩:=mem_iff_getElem.1 hx;rw[length_drop] at hj;have fx:(fi p).length=p.keys.length:=(by unfold fi;rw[length_zip,hlen,Nat.min_self])
  have hd:gL p.keys k<p.keys.length:=(by omega)
  have he:=Bp hd;rw[getElem_drop];have:¬bG p.keys[gL p.keys k+j] k:=by
   rcases Nat.eq_zero_or_pos j with rfl|h0
   ·exact he
   exact fun aa=>he (mX (nA po.kv w4 w4) aa)
  simpa[fi] using this
 rw[filter_eq_self.2];intro x hx;obtain⟨l,hl,hx⟩:=mem_flatMap.1 hx;simpa using vt (h2 l hl x hx)

end Go.Proofs.YtbplamgacibdaaaGreatDoor.Tr
namespace Go.Proofs.YtbplamgacibdaaaGreatDoor.Tr
open List
open Go.Proofs.Tryz
open Go.Lib (compareBytes)
variable {α:Type} {i n:Int} {p:c8} {up low:K} {h:Nat}
def ir(l:List α)(i:Nat)(x:α):List α:=l.take i++x::l.drop i
def aF.set(t:aF)(i:Int)(p:c8):aF:={t with ag:=t.ag.set i.toNat p}
variable {t:aF}
def bB(p:c8)(up:K)(aA:Int):c8 :=
 {p with keys:=ir p.keys (aQ p up) up,kids:=ir p.kids (if p.leaf=true then aQ p up else aQ p up+1) aA}
def ij(p:c8):K:=p.keys.getD 2 []
def eB(p:c8)(n:Int):c8:={leaf:=p.leaf,keys:=p.keys.take 2,kids:=p.kids.take (if p.leaf=true then 2 else 3),high:=ij p,next:=n}
def cA(p:c8):c8:={leaf:=p.leaf,keys:=p.keys.drop (if p.leaf=true then 2 else 3),kids:=p.kids.drop (if p.leaf=true then 2 else 3),high:=p.high,next:=p.next}
def rL(t:aF)(i:Int)(up:K)(aA:Int):aF×Option (K×Int) :=
 if (bB (t.pg i) up aA).keys.length<=4 then (t.set i (bB (t.pg i) up aA),none)
 else (⟨(t.ag.set i.toNat (eB (bB (t.pg i) up aA) t.ag.length))++[cA (bB (t.pg i) up aA)],t.root⟩,some (ij (bB (t.pg i) up aA),t.ag.length))
def fu(t:aF)(k:K)(row:Int):Nat->Int->aF×Option (K×Int)
 | 0,i=>rL t i k row
 | h+1,i=>match fu t k row h ((t.pg i).kids.getD (aQ (t.pg i) k) 0) with
  | (t',none)=>(t',none)
  | (t',some (up,aA))=>rL t' i up aA
def aiA(r:aF×Option (K×Int)):aF:=match r with
 | (t,none)=>t
 | (t,some (up,aA))=>⟨t.ag++[⟨false,[up],[t.root,aA],[],-1⟩],t.ag.length⟩
theorem oH(t:aF)(i:Int)(p:c8):(t.set i p).ag.length=t.ag.length:=by simp[aF.set]
theorem BF(h:0<=i/\i<t.ag.length)(p:c8):(t.set i p).pg i=p:=by
 unfold aF.pg aF.set;rw[getD_eq_getElem?_getD,getElem?_set_self w4];rfl
theorem wP{j:Int}(hi:0<=i)(hj:0<=j)(h:i≠j)(p:c8):(t.set i p).pg j=t.pg j:=by
 unfold aF.pg aF.set;rw[getD_eq_getElem?_getD,getD_eq_getElem?_getD,getElem?_set_ne w4]
theorem y9(l:List α){i:Nat}(h:i<=l.length)(x:α):(ir l i x).length=l.length+1:=by unfold ir;simp;omega
theorem u9{l:List α}{i:Nat}{x y:α}:y∈ir l i x↔y=x\/y∈l:=by
 unfold ir;conv=>rhs;rw[<-take_append_drop i l]
 simp only[mem_append,mem_cons];constructor
 ·rintro(h|h|h)
  ·exact .inr (.inl h)
  ·exact .inl h
  exact .inr (.inr h)
 rintro(h|h|h)
 ·exact .inr (.inl h)
 ·exact .inl h
 exact .inr (.inr h)
theorem acf{β:Type}{a:List α}{b:List β}(h:b.length=a.length){i:Nat}(hi:i<=a.length)(x:α)(y:β):(ir a i x).zip (ir b i y)=ir (a.zip b) i (x,y):=by
 unfold ir;rw[zip_append (by simp[h]),zip_cons_cons];have h1:(a.zip b).take i=(a.take i).zip (b.take i):=take_zipWith;have h2:(a.zip b).drop i=(a.drop i).zip (b.drop i):=drop_zipWith;rw[h1,h2]
theorem JI(hp:eN p n)(hn:up∉p.keys):(∀j (hj:j<p.keys.length),j<aQ p up->bG p.keys[j] up)/\(∀j (hj:j<p.keys.length),aQ p up<=j->bG up p.keys[j])/\aQ p up<=p.keys.length:=by
 unfold aQ;split
 ·refine⟨fun j hj h=>(BC h).2,fun j hj h=>?_,zj _ _⟩;have aa:gL p.keys up<p.keys.length:=(by omega)
  have h1:=Bp aa;have h2:¬bG p.keys[j] up:=by
   rcases Nat.lt_or_ge (gL p.keys up) j with h'|h'
   ·exact fun E=>h1 (mX (nA hp.kv h' hj) E)
   have:gL p.keys up=j:=(by omega)
   subst this;exact h1
  rcases zC p.keys[j] up with h|h|h
  ·exact absurd h h2
  ·exact absurd (h ▸ getElem_mem hj) hn
  exact h
 refine⟨fun j hj h=>?_,fun j hj h=>?_,BD _ _⟩
 ·have h2:=(JH h).2;rcases zC p.keys[j] up with h|h|h
  ·exact h
  ·exact absurd (h ▸ getElem_mem hj) hn
  exact absurd h h2
 have aa:nc p.keys up<p.keys.length:=(by omega)
 have h1:=I9 aa;rcases Nat.lt_or_ge (nc p.keys up) j with h'|h'
 ·exact mX h1 (nA hp.kv h' hj)
 have:nc p.keys up=j:=(by omega)
 subst this;exact h1
theorem ad6(hp:eN p n)(hn:up∉p.keys):(ir p.keys (aQ p up) up).Pairwise bG:=by
 obtain⟨h1,h2,h3⟩:=JI hp hn;unfold ir;have hr:=hp.kv;conv at hr=>rw[<-take_append_drop (aQ p up) p.keys]
 rw[pairwise_append] at hr;rw[pairwise_append,pairwise_cons];refine⟨hr.1,⟨fun y hy=>?_,hr.2.1⟩,fun x hx y hy=>?_⟩
 ·obtain⟨j,hj,rfl⟩:=mem_iff_getElem.1 hy;rw[length_drop] at hj;rw[getElem_drop];exact h2 _ w4 w4
 rcases mem_cons.1 hy with rfl|hy
 ·obtain⟨j,hj,rfl⟩:=mem_iff_getElem.1 hx;rw[length_take] at hj;rw[getElem_take];exact h1 _ w4 w4
 exact hr.2.2 x hx y hy
structure xy (p:c8) (many:Int):Prop where
 ec:p.keys.length<=5
 hlen:p.high.length<=100
 xO:-1<=p.next
 xB:p.next<many
 xP:p.next<0↔p.high=[]
 leaf:p.leaf=true->p.kids.length=p.keys.length
 node:p.leaf=false->p.kids.length=p.keys.length+1/\p.keys≠[]
 lI:∀k∈p.keys,1<=k.length/\k.length<=100
 qJ:p.high≠[]->∀k∈p.keys,bG k p.high
 kv:p.keys.Pairwise bG
 aA:∀n∈p.kids,0<=n
 vL:p.leaf=false->∀n∈p.kids,n<many
theorem xy.ok(h:xy p n)(hl:p.keys.length<=4):eN p n:=⟨hl,h.hlen,h.xO,h.xB,h.xP,h.leaf,h.node,h.lI,h.qJ,h.kv,h.aA,h.vL⟩
theorem JJ(hp:eN p n){aA:Int}(hn:up∉p.keys)(U:1<=up.length/\up.length<=100)(Z:p.high≠[]->bG up p.high)(hk:0<=aA)(O:p.leaf=false->aA<n):xy (bB p up aA) n:=by
 obtain⟨_,_,h3⟩:=JI hp hn;have hf:=hp.ec;refine⟨?_,hp.hlen,hp.xO,hp.xB,hp.xP,fun hl=>?_,fun hl=>?_,fun k I=>?_,fun hne k I=>?_,ad6 hp hn,fun m hm=>?_,fun hl m hm=>?_⟩
 ·show(ir _ _ _).length<=5;rw[y9 _ h3];omega
 ·have E:p.leaf=true:=hl;show(ir _ _ _).length=(ir _ _ _).length;rw[if_pos E,y9 _ h3,y9 _ (by rw[hp.leaf E];exact h3),hp.leaf E]
 ·have E:p.leaf=false:=hl;refine⟨?_,?_⟩
  ·show(ir _ _ _).length=(ir _ _ _).length+1;rw[if_neg (by rw[E];decide),y9 _ h3,y9 _ (by rw[(hp.node E).1];omega),(hp.node E).1]
  show ir _ _ _≠[];intro e;have:=congrArg length e;rw[y9 _ h3] at this;simp at this
 ·rcases u9.1 I with rfl|h
  ·exact U
  exact hp.lI k h
 ·rcases u9.1 I with rfl|h
  ·exact Z hne
  exact hp.qJ hne k h
 ·rcases u9.1 hm with rfl|h
  ·exact hk
  exact hp.aA m h
 rcases u9.1 hm with rfl|h
 ·exact O hl
 exact hp.vL hl m h
theorem zD(h:p.keys.length=5):ij p=p.keys[2]:=by unfold ij;rw[getD_eq_getElem?_getD,getElem?_eq_getElem w4];rfl
theorem Vt(hp:xy p n)(h5:p.keys.length=5)(h0:0<=n):eN (eB p n) (n+1):=by
 have U:=zD h5;have I:ij p∈p.keys:=(by rw[U];exact getElem_mem _)
 refine⟨?_,(hp.lI _ I).2,by show -1<=n;omega,by show n<n+1;omega,?_,fun hl=>?_,fun hl=>?_,fun k hk=>hp.lI k (mem_of_mem_take hk),fun _ k hk=>?_,hp.kv.sublist (take_sublist _ _),fun x hx=>hp.aA x (mem_of_mem_take hx),fun hl x hx=>?_⟩
 ·show(p.keys.take 2).length<=4;rw[length_take];omega
 ·show n<0↔ij p=[];have:=(hp.lI _ I).1;exact⟨fun h=>by omega,fun h=>by rw[h] at this;simp at this⟩
 ·have E:p.leaf=true:=hl;show(p.kids.take (if p.leaf=true then 2 else 3)).length=(p.keys.take 2).length;rw[if_pos E,length_take,length_take,hp.leaf E]
 ·have E:p.leaf=false:=hl;refine⟨?_,?_⟩
  ·show(p.kids.take (if p.leaf=true then 2 else 3)).length=(p.keys.take 2).length+1;rw[if_neg (by rw[E];decide),length_take,length_take,(hp.node E).1];omega
  show p.keys.take 2≠[];intro e;have:=congrArg length e;rw[length_take,h5] at this;cases this
 ·have O:k∈p.keys.take 2:=hk;obtain⟨j,hj,rfl⟩:=mem_iff_getElem.1 O;rw[length_take] at hj;show bG (p.keys.take 2)[j] (ij p);rw[getElem_take,U];exact nA hp.kv w4 w4
 have E:p.leaf=false:=hl;have:=hp.vL E x (mem_of_mem_take hx);omega
theorem Ur{m:Int}(hp:xy p n)(h5:p.keys.length=5)(hm:n<=m):eN (cA p) m:=by
 refine⟨?_,hp.hlen,hp.xO,by have:=hp.xB;show p.next<m;omega,hp.xP,fun hl=>?_,fun hl=>?_,fun k hk=>hp.lI k (mem_of_mem_drop hk),fun hne k hk=>hp.qJ hne k (mem_of_mem_drop hk),hp.kv.sublist (drop_sublist _ _),fun x hx=>hp.aA x (mem_of_mem_drop hx),fun hl x hx=>?_⟩
 ·show(p.keys.drop _).length<=4;rw[length_drop];split<;>omega
 ·have E:p.leaf=true:=hl;show(p.kids.drop _).length=(p.keys.drop _).length;rw[length_drop,length_drop,hp.leaf E]
 ·have E:p.leaf=false:=hl;refine⟨?_,?_⟩
  ·show(p.kids.drop _).length=(p.keys.drop _).length+1;rw[length_drop,length_drop,(hp.node E).1,if_neg (by rw[E];decide)];omega
  show p.keys.drop _≠[];intro e;have:=congrArg length e;rw[length_drop,if_neg (by rw[E];decide)] at this;simp at this;omega
 have E:p.leaf=false:=hl;have:=hp.vL E x (mem_of_mem_drop hx);omega

def jG(t:aF)(h:Nat):K->List Int->List K->K->Prop
 | low,c::cs,ks,high=>match cs,ks with
  | [],[]=>dX t h c low high
  | _::_,k::ks=>dX t h c low k/\jG t h k cs ks high
  | _,_=>False
 | _,[],_,_=>False
theorem BG{high:K}{c:Int}:jG t h low [c] [] high↔dX t h c low high:=by rw[jG]
theorem qy{high k:K}{c d:Int}{cs:List Int}{ks:List K}:jG t h low (c::d::cs) (k::ks) high↔dX t h c low k/\jG t h k (d::cs) ks high:=by rw[jG]
theorem JK{t:aF}{h:Nat}{high:K}:∀{kids:List Int} {keys:List K} {low:K},kids.length=keys.length+1 ->
  ((∀j (hj:j<kids.length),dX t h kids[j] (if j=0 then low else keys.getD (j-1) []) (keys.getD j high))↔jG t h low kids keys high)
 | [],keys,low,e=>by simp at e
 | [c],[],low,e=>by
  rw[BG];constructor
  ·intro q;exact q 0 bq
  intro q j hj;obtain rfl:j=0:=(by simpa using hj)
  exact q
 | [c],k::ks,low,e=>by simp at e
 | c::d::cs,[],low,e=>by simp at e
 | c::d::cs,k::ks,low,e=>by
  rw[qy,<-JK (kids:=d::cs) (keys:=ks) (low:=k) (by simpa using e)];constructor
  ·intro q;refine⟨q 0 bq,fun j hj=>?_⟩;have:=q (j+1) (by simpa using hj);rw[if_neg w4] at this;simp only[getElem_cons_succ,Nat.add_sub_cancel,getD_cons_succ] at this;cases j with
   | zero=>exact this
   | succ j=>exact this
  rintro⟨q0,q⟩ j hj;cases j with
  | zero=>exact q0
  | succ j =>
   have:=q j (by simpa using hj);rw[if_neg w4];simp only[getElem_cons_succ,Nat.add_sub_cancel,getD_cons_succ];cases j with
   | zero=>exact this
   | succ j=>exact this
theorem BS{high:K}(hp:eN (t.pg i) n):dX t (h+1) i low high↔(0<=i/\i<t.ag.length)/\(t.pg i).leaf=false/\(t.pg i).high=high/\(∀k∈(t.pg i).keys,¬bG k low)/\jG t h low (t.pg i).kids (t.pg i).keys high:=by
 constructor
 ·rintro⟨q1,q2,E,O,I⟩;refine⟨q1,q2,E,O,?_⟩;rw[<-JK (hp.node q2).1];intro j hj;have:=I j hj;unfold iP iA at this;rw[E] at this;exact this
 rintro⟨q1,q2,E,O,I⟩;refine⟨q1,q2,E,O,?_⟩;rw[<-JK (hp.node q2).1] at I;intro j hj;have:=I j hj;unfold iP iA;rw[E];exact this
theorem SM{t u:aF}{h:Nat}{high:K}:∀{kids:List Int} {keys:List K} {low:K},jG t h low kids keys high->(∀c∈kids,∀lo hi,dX t h c lo hi->dX u h c lo hi)->jG u h low kids keys high
 | [],keys,low,q,_=>by simp[jG] at q
 | [c],[],low,q,f=>by rw[BG] at q |-;exact f c bq _ _ q
 | [c],k::ks,low,q,f=>by simp[jG] at q
 | c::d::cs,[],low,q,f=>by simp[jG] at q
 | c::d::cs,k::ks,low,q,f=>by
  rw[qy] at q |-;exact⟨f c bq _ _ q.1,SM q.2 fun x hx=>f x (by simp at hx |-;exact .inr hx)⟩
theorem SN{t u:aF}{h:Nat}{high up:K}{aA:Int}:∀(j:Nat) {kids:List Int} {keys:List K} {low:K} (hj:j<kids.length),jG t h low kids keys high ->
  (∀c∈kids.eraseIdx j,∀lo hi,dX t h c lo hi->dX u h c lo hi) ->
  (dX u h kids[j] (if j=0 then low else keys.getD (j-1) []) up)->dX u h aA up (keys.getD j high)->jG u h low (ir kids (j+1) aA) (ir keys j up) high
 | 0,[],keys,low,hj,q,f,q1,q2=>by simp at hj
 | 0,[c],[],low,hj,q,f,q1,q2=>by
  show jG u h low [c,aA] [up] high;rw[qy,BG];exact⟨q1,q2⟩
 | 0,[c],k::ks,low,hj,q,f,q1,q2=>by simp[jG] at q
 | 0,c::d::cs,[],low,hj,q,f,q1,q2=>by simp[jG] at q
 | 0,c::d::cs,k::ks,low,hj,q,f,q1,q2=>by
  show jG u h low (c::aA::d::cs) (up::k::ks) high;rw[qy,qy];rw[qy] at q;exact⟨q1,q2,SM q.2 fun x hx=>f x (by simpa using hx)⟩
 | j+1,[],keys,low,hj,q,f,q1,q2=>by simp at hj
 | j+1,[c],keys,low,hj,q,f,q1,q2=>by simp at hj
 | j+1,c::d::cs,[],low,hj,q,f,q1,q2=>by simp[jG] at q
 | j+1,c::d::cs,k::ks,low,hj,q,f,q1,q2=>by
  rw[qy] at q;have e1:ir (c::d::cs) (j+1+1) aA=c::ir (d::cs) (j+1) aA:=rfl;have e2:ir (k::ks) (j+1) up=k::ir ks j up:=rfl;rw[e1,e2];have ih:=SN (t:=t) (u:=u) (up:=up) (aA:=aA) j (kids:=d::cs) (keys:=ks) (low:=k) (by simpa using hj) q.2 (fun x hx=>f x (by rw[eraseIdx_cons_succ];exact mem_cons_of_mem _ hx)) (by
   have:=q1;rw[if_neg w4] at this;simp only[getElem_cons_succ,Nat.add_sub_cancel] at this;cases j with
   | zero=>exact this
   | succ j=>exact this) (by simpa using q2)
  have E:ir (d::cs) (j+1) aA=d::ir cs j aA:=rfl;rw[E] at ih |-;rw[qy];exact⟨f c (by rw[eraseIdx_cons_succ];simp) _ _ q.1,ih⟩
theorem Qm{t:aF}{h:Nat}{high:K}:∀(m:Nat) {kids:List Int} {keys:List K} {low:K} (hm:m<keys.length),jG t h low kids keys high->jG t h low (kids.take (m+1)) (keys.take m) keys[m]/\jG t h keys[m] (kids.drop (m+1)) (keys.drop (m+1)) high
 | 0,c::d::cs,k::ks,low,hm,q=>by
  rw[qy] at q;exact⟨BG.2 q.1,q.2⟩
 | m+1,c::d::cs,k::ks,low,hm,q=>by
  rw[qy] at q;obtain⟨q1,q2⟩:=Qm m (kids:=d::cs) (keys:=ks) (by simpa using hm) q.2;refine⟨?_,q2⟩;have e:(c::d::cs).take (m+1+1)=c::d::cs.take m:=rfl;rw[e];show jG t h low (c::d::cs.take m) (k::ks.take m) _;rw[qy];exact⟨q.1,q1⟩
 | _,_,[],_,hm,_=>by simp at hm
 | _,[],_::_,_,_,q=>by simp[jG] at q
 | _,[c],_::_,_,_,q=>by simp[jG] at q
theorem BU{t:aF}{e:Int}:∀{a b:List Int},fk t (a++b) e↔fk t a (b.headD e)/\fk t b e
 | [],b=>by simp[fk]
 | [i],[]=>by simp[fk]
 | [i],j::b=>by simp[fk]
 | i::j::a,b=>by
  have:=BU (t:=t) (e:=e) (a:=j::a) (b:=b);show(t.pg i).next=j/\fk t (j::a++b) e↔((t.pg i).next=j/\fk t (j::a) (b.headD e))/\fk t b e;rw[this,and_assoc]
theorem za{t u:aF}:∀{a:List Int} {e:Int},(∀j∈a,(u.pg j).next=(t.pg j).next)->fk t a e->fk u a e
 | [],e,_,_=>trivial
 | [i],e,f,h=>by show(u.pg i).next=e;rw[f i bq];exact h
 | i::j::a,e,f,h=>⟨by rw[f i bq];exact h.1,za (fun x hx=>f x (mem_cons_of_mem _ hx)) h.2⟩
theorem F5{t:aF}{n:Int}(hp:∀p∈t.ag,eN p n):∀{h:Nat} {i:Int} {low high:K},dX t h i low high->∀d,d<=h->cH t d i≠[]
 | 0,i,low,high,ok,d,hd=>by
  obtain rfl:d=0:=(by omega)
  simp[cH]
 | h+1,i,low,high,ok,d,hd=>by
  cases d with
  | zero=>simp[cH]
  | succ d =>
   obtain⟨q1,q2,I,O,E⟩:=ok;have po:=hp _ (jV q1);have hl:=(po.node q2).1;have h0:0<(t.pg i).kids.length:=(by omega)
   have:=F5 hp (E 0 h0) d w4;rw[cH];intro e;rw[flatMap_eq_nil_iff] at e;exact this (e _ (getElem_mem h0))
theorem sD{t:aF}:∀(h:Nat) (i:Int) (d:Nat),d<=h->∀x∈cH t d i,x∈ids t h i
 | 0,i,d,hd,x,hx=>by
  obtain rfl:d=0:=(by omega)
  exact hx
 | h+1,i,0,hd,x,hx=>by
  have:x=i:=(by simpa[cH] using hx)
  subst this;exact tV _ _
 | h+1,i,d+1,hd,x,hx=>by
  rw[cH] at hx;obtain⟨c,hc,hx⟩:=mem_flatMap.1 hx;rw[ids];exact mem_cons_of_mem _ (mem_flatMap.2 ⟨c,hc,sD h c d w4 x hx⟩)
theorem E2{a b:List α}(h:a≠[])(e:α):(a++b).headD e=a.headD e:=by
 cases a with
 | nil=>exact absurd rfl h
 | cons x r=>rfl

def oq(t:aF)(h:Nat)(i:Int):Option (K×Int)->List Int
 | none=>ids t h i
 | some (_,aA)=>ids t h i++ids t h aA
def Gr(t:aF)(h:Nat)(i:Int):Option (K×Int)->List (K×Int)
 | none=>eA t h i
 | some (_,aA)=>eA t h i++eA t h aA
def sX(t:aF)(d:Nat)(i:Int):Option (K×Int)->List Int
 | none=>cH t d i
 | some (_,aA)=>cH t d i++cH t d aA
def oD(t:aF)(h:Nat)(i:Int)(low high:K):Option (K×Int)->Prop
 | none=>dX t h i low high
 | some (up,aA)=>(1<=up.length/\up.length<=100)/\bG low up/\(high≠[]->bG up high)/\dX t h i low up/\dX t h aA up high
structure pc (t u:aF) (h:Nat) (i:Int) (low high:K) (k:K) (row:Int) (r:Option (K×Int)):Prop where
 le:t.ag.length<=u.ag.length
 more:u.ag.length<=t.ag.length+(h+1)
 root:u.root=t.root
 fM:∀p∈u.ag,eN p u.ag.length
 out:∀j:Int,0<=j->j<t.ag.length->j∉ids t h i->u.pg j=t.pg j
 ok:oD u h i low high r
 sub:∀x∈oq u h i r,x∈ids t h i\/(t.ag.length:Int)<=x
 nodup:(oq u h i r).Nodup
 Zx:(oq u h i r).length+t.ag.length=(ids t h i).length+u.ag.length
 eA:∀x,x∈Gr u h i r↔x=(k,row)\/x∈eA t h i
 pM:∀d,d<=h->∀e,fk t (cH t d i) e->fk u (sX u d i r) e/\(sX u d i r).headD e=(cH t d i).headD e
def jH(t:aF)(i:Int)(a b:c8):aF:=⟨(t.ag.set i.toNat a)++[b],t.root⟩
theorem pT(t:aF)(i:Int)(a b:c8):(jH t i a b).ag.length=t.ag.length+1:=by simp[jH]
theorem Q5(h:0<=i/\i<t.ag.length)(a b:c8):(jH t i a b).pg i=a:=by
 unfold aF.pg jH;rw[getD_eq_getElem?_getD,getElem?_append_left uE,getElem?_set_self w4];rfl
theorem SO(t:aF)(i:Int)(a b:c8):(jH t i a b).pg t.ag.length=b:=by
 unfold aF.pg jH;rw[getD_eq_getElem?_getD,getElem?_append_right uE,length_set];simp
theorem Qn{j:Int}(hi:0<=i)(hj:0<=j/\j<t.ag.length)(h:i≠j)(a b:c8):(jH t i a b).pg j=t.pg j:=by
 unfold aF.pg jH;rw[getD_eq_getElem?_getD,getD_eq_getElem?_getD,getElem?_append_left uE,getElem?_set_ne w4]
theorem Jb{q:c8}(hp:∀p∈t.ag,eN p n)(hq:eN q n):∀p∈(t.set i q).ag,eN p n:=fun p h=>by
 rcases mem_or_eq_of_mem_set h with h|rfl
 ·exact hp p h
 exact hq
theorem Qo{a b:c8}{m:Int}(hp:∀p∈t.ag,eN p n)(hm:n<=m)(ha:eN a m)(hb:eN b m):∀p∈(jH t i a b).ag,eN p m:=fun p h=>by
 unfold jH at h;rcases mem_append.1 h with h|h
 ·rcases mem_or_eq_of_mem_set h with h|rfl
  ·exact(hp p h).more hm
  exact ha
 rw[mem_singleton] at h;subst h;exact hb
theorem JL{aA:Int}(h:(bB (t.pg i) up aA).keys.length<=4):rL t i up aA=(t.set i (bB (t.pg i) up aA),none):=by unfold rL;rw[if_pos h]
theorem Jc{aA:Int}(h:¬(bB (t.pg i) up aA).keys.length<=4):rL t i up aA=(jH t i (eB (bB (t.pg i) up aA) t.ag.length) (cA (bB (t.pg i) up aA)),some (ij (bB (t.pg i) up aA),(t.ag.length:Int))):=by unfold rL;rw[if_neg h];rfl
theorem Us{q:c8}(hr:q.keys.Pairwise bG)(h5:q.keys.length=5)(hl:∀k∈q.keys,¬bG k low):bG low (ij q)/\(∀k∈q.keys.drop 2,¬bG k (ij q)):=by
 rw[zD h5];refine⟨P1 (hl _ (getElem_mem (by omega:0<q.keys.length))) (nA hr w4 w4),fun k hk=>?_⟩;obtain⟨j,hj,rfl⟩:=mem_iff_getElem.1 hk;rw[length_drop] at hj;rw[getElem_drop];rcases Nat.eq_zero_or_pos j with rfl|h0
 ·exact jS _
 exact vt (nA hr w4 w4)
theorem ad8(hp:∀p∈t.ag,eN p t.ag.length){high:K}(ok:dX t 0 i low high){k:K}{row:Int}(hk:lT low high k)(hn:∀x∈eA t 0 i,x.1≠k)(hl:1<=k.length/\k.length<=100)(hr:0<=row):pc t (rL t i k row).1 0 i low high k row (rL t i k row).2:=by
 obtain⟨q1,q2,O,q4⟩:=ok;have po:=hp _ (jV q1);have U:k∉(t.pg i).keys:=fun hm=>by
  obtain⟨j,hj,e⟩:=mem_iff_getElem.1 hm;have hlen:=po.leaf q2;refine hn ((t.pg i).keys[j],(t.pg i).kids[j]'w4) ?_ e;show _∈fi (t.pg i);unfold fi;exact mem_iff_getElem.2 ⟨j,by rw[length_zip];omega,by rw[getElem_zip]⟩
 have hf:xy (bB (t.pg i) k row) t.ag.length:=JJ po U hl (fun hne=>hk.2 (by rw[<-O];exact hne) |> fun h=>by rw[O];exact h) hr (fun h=>by rw[q2] at h;cases h);have fx:=(JI po U).2.2;have hE:fi (bB (t.pg i) k row)=ir (fi (t.pg i)) (aQ (t.pg i) k) (k,row):=by
  show(ir _ _ _).zip (ir _ _ _)=_;rw[if_pos q2];exact acf (po.leaf q2) fx k row
 have E:∀x∈(bB (t.pg i) k row).keys,¬bG x low:=fun x hx=>by
  rcases u9.1 hx with rfl|h
  ·exact hk.1
  exact q4 x h
 by_cases h4:(bB (t.pg i) k row).keys.length<=4
 ·rw[JL h4];have Z:=BF q1 (bB (t.pg i) k row);refine⟨by rw[oH];omega,by rw[oH];omega,rfl,by rw[oH];exact Jb hp (hf.ok h4),fun j h0 hj hne=>?_,?_,fun x hx=>.inl hx,?_,by rw[oH];rfl,fun x=>?_,fun d hd e hs=>?_⟩
  ·exact wP q1.1 h0 (by intro e;subst e;simp[ids] at hne) _
  ·exact⟨by rw[oH];exact q1,by rw[Z];exact q2,by rw[Z];exact O,by rw[Z];exact E⟩
  ·show[i].Nodup;simp
  ·show x∈fi ((t.set i _).pg i)↔_;rw[Z,hE,u9];rfl
  obtain rfl:d=0:=(by omega)
  refine⟨?_,rfl⟩;show((t.set i _).pg i).next=e;rw[Z];exact hs
 have h5:(bB (t.pg i) k row).keys.length=5:=(by have:=hf.ec;omega)
 rw[Jc h4];have I:(bB (t.pg i) k row).leaf=true:=q2;have ea:=Q5 q1 (eB (bB (t.pg i) k row) t.ag.length) (cA (bB (t.pg i) k row));have eb:=SO t i (eB (bB (t.pg i) k row) t.ag.length) (cA (bB (t.pg i) k row));obtain⟨u1,u2⟩:=Us hf.kv h5 E;have D0:ij (bB (t.pg i) k row)∈(bB (t.pg i) k row).keys:=(by rw[zD h5];exact getElem_mem _)
 have iv:fi (eB (bB (t.pg i) k row) t.ag.length)++fi (cA (bB (t.pg i) k row))=fi (bB (t.pg i) k row):=by
  show((bB (t.pg i) k row).keys.take 2).zip ((bB (t.pg i) k row).kids.take (if (bB (t.pg i) k row).leaf=true then 2 else 3))++((bB (t.pg i) k row).keys.drop (if (bB (t.pg i) k row).leaf=true then 2 else 3)).zip ((bB (t.pg i) k row).kids.drop (if (bB (t.pg i) k row).leaf=true then 2 else 3))=_;rw[if_pos I,<-zip_append (by rw[length_take,length_take,hf.leaf I]),take_append_drop,take_append_drop];rfl
 refine⟨by rw[pT];omega,by rw[pT];omega,rfl,?_,fun j h0 hj hne=>?_,⟨hf.lI _ D0,u1,fun hne=>hf.qJ (by show(t.pg i).high≠[];rw[O];exact hne) _ D0 |> fun h=>by rw[<-O];exact h,?_,?_⟩,fun x hx=>?_,?_,by rw[pT];show[i,(t.ag.length:Int)].length+_=[i].length+_;simp;omega,fun x=>?_,fun d hd e hs=>?_⟩
 ·rw[pT];exact Qo hp w4 (Vt hf h5 w4) (Ur hf h5 w4)
 ·exact Qn q1.1 ⟨h0,hj⟩ (by intro e;subst e;simp[ids] at hne) _ _
 ·exact⟨by rw[pT];omega,by rw[ea];exact I,by rw[ea];rfl,by rw[ea];exact fun x hx=>E x (mem_of_mem_take hx)⟩
 ·refine⟨by rw[pT];omega,by rw[eb];exact I,by rw[eb];exact O,?_⟩;rw[eb];show ∀x∈(bB (t.pg i) k row).keys.drop (if (bB (t.pg i) k row).leaf=true then 2 else 3),_;rw[if_pos I];exact u2
 ·have pH:x∈[i,(t.ag.length:Int)]:=hx;simp only[mem_cons,not_mem_nil,or_false] at pH;rcases pH with rfl|rfl
  ·exact .inl (by simp[ids])
  exact .inr (Int.le_refl _)
 ·show[i,(t.ag.length:Int)].Nodup;simp;omega
 ·show x∈fi ((jH t i _ _).pg i)++fi ((jH t i _ _).pg _)↔_;rw[ea,eb,iv,hE,u9];rfl
 obtain rfl:d=0:=(by omega)
 refine⟨?_,rfl⟩;show((jH t i _ _).pg i).next=_/\((jH t i _ _).pg _).next=e;rw[ea,eb];exact⟨rfl,hs⟩

end Go.Proofs.YtbplamgacibdaaaGreatDoor.Tr

namespace Go.Proofs.YtbplamgacibdaaaGreatDoor.Tr
open List
open Go.Proofs.Tryz
open Go.Lib (compareBytes)
variable {α:Type} {A B:List Int} {v:aF}
theorem KC{keys:List K}(hr:keys.Pairwise bG){up:K}{j:Nat}(hj:j<=keys.length)(h1:∀(h:0<j),¬bG up (keys[j-1]'w4))(h2:∀(h:j<keys.length),bG up keys[j]):nc keys up=j:=by
 have hle:=BD keys up;rcases Nat.lt_trichotomy (nc keys up) j with h|h|h
 ·exfalso;have aa:nc keys up<keys.length:=(by omega)
  have h3:=I9 aa;have h4:=h1 w4;rcases Nat.lt_or_ge (nc keys up) (j-1) with h5|h5
  ·exact h4 (mX h3 (nA hr h5 w4))
  have:nc keys up=j-1:=(by omega)
  simp only[this] at h3;exact h4 h3
 ·exact h
 exact absurd (h2 w4) (JH h).2
theorem P2{l:List α}{j:Nat}(hj:j<l.length)(x:α):ir l (j+1) x=l.take j++l[j]::x::l.drop (j+1):=by
 unfold ir;rw[take_succ_eq_append_getElem hj,append_assoc];rfl
theorem ve{l:List α}{j:Nat}(hj:j<l.length):l=l.take j++l[j]::l.drop (j+1):=by
 conv=>lhs;rw[<-take_append_drop j l,drop_eq_getElem_cons hj]
theorem aaJ{l:List α}{j:Nat}{x:α}(h:x∈l.eraseIdx j):x∈l.take j\/x∈l.drop (j+1):=by
 rw[eraseIdx_eq_take_drop_succ] at h;exact mem_append.1 h
variable {t:aF}
theorem wQ{h:Nat}{i:Int}{j:Nat}(hj:j<(t.pg i).kids.length)(hn:(ids t (h+1) i).Nodup):(ids t h (t.pg i).kids[j]).Nodup/\i∉ids t h (t.pg i).kids[j]/\(∀x∈(t.pg i).kids.take j++(t.pg i).kids.drop (j+1),(∀y∈ids t h x,y∉ids t h (t.pg i).kids[j])/\i∉ids t h x) /\
  (((t.pg i).kids.take j).flatMap (ids t h)++((t.pg i).kids.drop (j+1)).flatMap (ids t h)).Nodup/\i∉((t.pg i).kids.take j).flatMap (ids t h)++((t.pg i).kids.drop (j+1)).flatMap (ids t h):=by
 rw[ids,nodup_cons] at hn;obtain⟨h0,hn⟩:=hn;have hs:=ve hj;rw[hs,flatMap_append,flatMap_cons] at hn h0;simp only[mem_append,not_or] at h0;rw[nodup_append] at hn;obtain⟨n1,n2,n3⟩:=hn;rw[nodup_append] at n2;obtain⟨n4,n5,n6⟩:=n2;refine⟨n4,h0.2.1,fun x hx=>?_,?_,?_⟩
 ·rcases mem_append.1 hx with hx|hx
  ·exact⟨fun y hy hc=>n3 y (mem_flatMap.2 ⟨x,hx,hy⟩) y (mem_append_left _ hc) rfl,fun hi=>h0.1 (mem_flatMap.2 ⟨x,hx,hi⟩)⟩
  exact⟨fun y hy hc=>n6 y hc y (mem_flatMap.2 ⟨x,hx,hy⟩) rfl,fun hi=>h0.2.2 (mem_flatMap.2 ⟨x,hx,hi⟩)⟩
 ·rw[nodup_append];exact⟨n1,n5,fun a ha b hb=>n3 a ha b (mem_append_right _ hb)⟩
 simp only[mem_append,not_or];exact⟨h0.1,h0.2.2⟩
theorem Jd{f g:Int->List α}{c aA:Int}(hA:∀x∈A,f x=g x)(hB:∀x∈B,f x=g x):(A++c::aA::B).flatMap f=A.flatMap g++(f c++f aA)++B.flatMap g:=by
 rw[flatMap_append,flatMap_cons,flatMap_cons,rm hA,rm hB];simp
theorem JM{f g:Int->List α}{c:Int}(hA:∀x∈A,f x=g x)(hB:∀x∈B,f x=g x):(A++c::B).flatMap f=A.flatMap g++f c++B.flatMap g:=by
 rw[flatMap_append,flatMap_cons,rm hA,rm hB];simp

structure jP (t u:aF) (h:Nat) (i:Int) (low high:K) (j:Nat) (k:K) (row:Int) (r:Option (K×Int)):Prop where
 hp:∀p∈t.ag,eN p t.ag.length
 ok:dX t (h+1) i low high
 nd:(ids t (h+1) i).Nodup
 hj:j<(t.pg i).kids.length
 hk:lT (iP low (t.pg i) j) (iA (t.pg i) j) k
 ins:pc t u h ((t.pg i).kids.getD j 0) (iP low (t.pg i) j) (iA (t.pg i) j) k row r
section
variable {u:aF} {h:Nat} {i:Int} {low high:K} {j:Nat} {k:K} {row:Int} {r:Option (K×Int)}
theorem jP.aA(m:jP t u h i low high j k row r):(t.pg i).kids.getD j 0=(t.pg i).kids[j]'m.hj:=uc m.hj
theorem jP.same(m:jP t u h i low high j k row r):u.pg i=t.pg i:=by
 have:=(wQ m.hj m.nd).2.1;exact m.ins.out i m.ok.idx.1 m.ok.idx.2 (by rw[m.aA];exact this)
structure oL (u v:aF) (i:Int):Prop where
 le:u.ag.length<=v.ag.length
 pg:∀x:Int,0<=x->x<u.ag.length->x≠i->v.pg x=u.pg x
theorem jP.others(m:jP t u h i low high j k row r)(ha:oL u v i):∀x∈(t.pg i).kids.take j++(t.pg i).kids.drop (j+1),∀y∈ids t h x,v.pg y=t.pg y:=fun x hx y hy=>by
 obtain⟨h1,h2⟩:=(wQ m.hj m.nd).2.2.1 x hx;have I:y≠i:=fun e=>h2 (e ▸ hy);have E:0<=y/\y<t.ag.length:=by
  have hm:y∈ids t (h+1) i:=by
   rw[ids];refine mem_cons_of_mem _ (mem_flatMap.2 ⟨x,?_,hy⟩);rcases mem_append.1 hx with hx|hx
   ·exact mem_of_mem_take hx
   exact mem_of_mem_drop hx
  exact m.ok.ids y hm
 have hle:=m.ins.le;rw[ha.pg y E.1 w4 I,m.ins.out y E.1 E.2 (by rw[m.aA];exact h1 y hy)]
theorem jP.below(m:jP t u h i low high j k row r)(ha:oL u v i):∀y∈oq u h ((t.pg i).kids[j]'m.hj) r,0<=y->y<u.ag.length->v.pg y=u.pg y:=fun y hy h0 hl=>by
 refine ha.pg y h0 hl fun e=>?_;have hs:=m.ins.sub y (by rw[m.aA];exact hy);rw[m.aA] at hs;rcases hs with hs|hs
 ·exact(wQ m.hj m.nd).2.1 (e ▸ hs)
 have:=m.ok.idx;omega
theorem jP.qF(m:jP t u h i low high j k row r)(ha:oL u v i){x:Int}(hx:x∈(t.pg i).kids.take j++(t.pg i).kids.drop (j+1)):ids v h x=ids t h x/\eA v h x=eA t h x/\∀d,d<=h->cH v d x=cH t d x:=frame h x (m.others ha x hx)
theorem jP.Ut(m:jP t u h i low high j k row r)(ha:oL u v i){x:Int}(hx:x∈(t.pg i).kids.take j++(t.pg i).kids.drop (j+1)){lo hi:K}(aW:dX t h x lo hi):dX v h x lo hi:=by
 have:=m.ins.le;have:=ha.le;exact aW.frame w4 (m.others ha x hx)
theorem jP.SP(m:jP t u h i low high j k row r):(((t.pg i).kids.take j).flatMap (ids t h)++oq u h ((t.pg i).kids[j]'m.hj) r++((t.pg i).kids.drop (j+1)).flatMap (ids t h)).Nodup/\i∉((t.pg i).kids.take j).flatMap (ids t h)++oq u h ((t.pg i).kids[j]'m.hj) r++((t.pg i).kids.drop (j+1)).flatMap (ids t h):=by
 obtain⟨a1,a2,a3,a4,a5⟩:=wQ m.hj m.nd;have hnd:=m.ins.nodup;have E:=m.ins.sub;rw[m.aA] at hnd E;have aa:∀x∈(t.pg i).kids.take j++(t.pg i).kids.drop (j+1),∀y∈ids t h x,y<t.ag.length:=fun x hx y hy=>by
  refine(m.ok.ids y ?_).2;rw[ids];refine mem_cons_of_mem _ (mem_flatMap.2 ⟨x,?_,hy⟩);rcases mem_append.1 hx with hx|hx
  ·exact mem_of_mem_take hx
  exact mem_of_mem_drop hx
 have I:∀x∈(t.pg i).kids.take j++(t.pg i).kids.drop (j+1),∀y∈ids t h x,y∉oq u h ((t.pg i).kids[j]'m.hj) r:=fun x hx y hy hm=>by
  rcases E y hm with hs|hs
  ·exact(a3 x hx).1 y hy hs
  have:=aa x hx y hy;omega
 have O:i∉oq u h ((t.pg i).kids[j]'m.hj) r:=fun hm=>by
  rcases E i hm with hs|hs
  ·exact a2 hs
  have:=m.ok.idx;omega
 rw[nodup_append] at a4;obtain⟨b1,b2,b3⟩:=a4;refine⟨?_,?_⟩
 ·rw[nodup_append,nodup_append];refine⟨⟨b1,hnd,fun a ha b hb e=>?_⟩,b2,fun a ha b hb e=>?_⟩
  ·obtain⟨x,hx,ha⟩:=mem_flatMap.1 ha;subst e;exact I x (mem_append_left _ hx) a ha hb
  obtain⟨x,hx,ke⟩:=mem_flatMap.1 hb;subst e;rcases mem_append.1 ha with ha|ha
  ·exact b3 a ha a hb rfl
  exact I x (mem_append_right _ hx) a ke ha
 simp only[mem_append,not_or] at a5 |-;exact⟨⟨a5.1,O⟩,a5.2⟩
theorem jP.Vu(m:jP t u h i low high j k row r):(((t.pg i).kids.take j).flatMap (ids t h)++oq u h ((t.pg i).kids[j]'m.hj) r++((t.pg i).kids.drop (j+1)).flatMap (ids t h)).length+1+t.ag.length=(ids t (h+1) i).length+u.ag.length:=by
 have hc:=m.ins.Zx;rw[m.aA] at hc;have e:(ids t (h+1) i).length=1+((((t.pg i).kids.take j).flatMap (ids t h)).length+((ids t h ((t.pg i).kids[j]'m.hj)).length+(((t.pg i).kids.drop (j+1)).flatMap (ids t h)).length)):=by
  rw[ids];conv=>lhs;rw[ve m.hj]
  rw[length_cons,flatMap_append,flatMap_cons,length_append,length_append];omega
 rw[e,length_append,length_append];omega
theorem jP.Vd(m:jP t u h i low high j k row r):∀x∈((t.pg i).kids.take j).flatMap (ids t h)++oq u h ((t.pg i).kids[j]'m.hj) r++((t.pg i).kids.drop (j+1)).flatMap (ids t h),x∈ids t (h+1) i\/(t.ag.length:Int)<=x:=fun x hx=>by
 have E:=m.ins.sub;rw[m.aA] at E;have up:∀c∈(t.pg i).kids,∀y∈ids t h c,y∈ids t (h+1) i:=fun c hc y hy=>by rw[ids];exact mem_cons_of_mem _ (mem_flatMap.2 ⟨c,hc,hy⟩)
 rcases mem_append.1 hx with hx|hx
 ·rcases mem_append.1 hx with hx|hx
  ·obtain⟨c,hc,hx⟩:=mem_flatMap.1 hx;exact .inl (up c (mem_of_mem_take hc) x hx)
  rcases E x hx with hs|hs
  ·exact .inl (up _ (getElem_mem _) x hs)
  exact .inr hs
 obtain⟨c,hc,hx⟩:=mem_flatMap.1 hx;exact .inl (up c (mem_of_mem_drop hc) x hx)
theorem jP.KD(m:jP t u h i low high j k row r)(x:K×Int):x∈((t.pg i).kids.take j).flatMap (eA t h)++Gr u h ((t.pg i).kids[j]'m.hj) r++((t.pg i).kids.drop (j+1)).flatMap (eA t h)↔x=(k,row)\/x∈eA t (h+1) i:=by
 have he:=m.ins.eA x;rw[m.aA] at he;have e:eA t (h+1) i=((t.pg i).kids.take j).flatMap (eA t h)++(eA t h ((t.pg i).kids[j]'m.hj)++((t.pg i).kids.drop (j+1)).flatMap (eA t h)):=by
  rw[eA];conv=>lhs;rw[ve m.hj]
  rw[flatMap_append,flatMap_cons]
 rw[e];simp only[mem_append,he];constructor
 ·rintro((h|h|h)|h)
  ·exact .inr (.inl h)
  ·exact .inl h
  ·exact .inr (.inr (.inl h))
  exact .inr (.inr (.inr h))
 rintro(h|h|h|h)
 ·exact .inl (.inr (.inl h))
 ·exact .inl (.inl h)
 ·exact .inl (.inr (.inr h))
 exact .inr h
theorem jP.Lc(m:jP t u h i low high j k row r)(ha:oL u v i){d:Nat}(hd:d<=h){e:Int}(hs:fk t (cH t (d+1) i) e) :
  fk v (((t.pg i).kids.take j).flatMap (cH t d)++sX u d ((t.pg i).kids[j]'m.hj) r++((t.pg i).kids.drop (j+1)).flatMap (cH t d)) e/\(((t.pg i).kids.take j).flatMap (cH t d)++sX u d ((t.pg i).kids[j]'m.hj) r++((t.pg i).kids.drop (j+1)).flatMap (cH t d)).headD e=(cH t (d+1) i).headD e:=by
 have hl:cH t (d+1) i=((t.pg i).kids.take j).flatMap (cH t d)++(cH t d ((t.pg i).kids[j]'m.hj)++((t.pg i).kids.drop (j+1)).flatMap (cH t d)):=by
  rw[cH];conv=>lhs;rw[ve m.hj]
  rw[flatMap_append,flatMap_cons]
 rw[hl] at hs |-;rw[BU,BU] at hs;obtain⟨s1,s2,s3⟩:=hs;obtain⟨g1,g2⟩:=m.ins.pM d hd _ (by rw[m.aA];exact s2);rw[m.aA] at g1 g2;obtain⟨_,_,_,_,O⟩:=m.ok;have hne:cH t d ((t.pg i).kids[j]'m.hj)≠[]:=F5 m.hp (O j m.hj) d hd;have fr:∀x∈(t.pg i).kids.take j++(t.pg i).kids.drop (j+1),∀y∈cH t d x,(v.pg y).next=(t.pg y).next:=fun x hx y hy=>by rw[m.others ha x hx y (sD h x d hd y hy)]
 have U:∀y∈sX u d ((t.pg i).kids[j]'m.hj) r,(v.pg y).next=(u.pg y).next:=fun y hy=>by
  have aW:=m.ins.ok;rw[m.aA] at aW;cases r with
  | none =>
   have hi:=sD h _ d hd y hy;have hb:=dX.ids aW y hi;rw[m.below ha y hi hb.1 hb.2]
  | some q =>
   obtain⟨up,aA⟩:=q;obtain⟨_,_,_,o1,o2⟩:=aW;rcases mem_append.1 hy with hy|hy
   ·have hi:=sD h _ d hd y hy;have hb:=o1.ids y hi;rw[m.below ha y (mem_append_left _ hi) hb.1 hb.2]
   have hi:=sD h _ d hd y hy;have hb:=o2.ids y hi;rw[m.below ha y (mem_append_right _ hi) hb.1 hb.2]
 have E:sX u d ((t.pg i).kids[j]'m.hj) r≠[]:=fun e0=>by
  have aW:=m.ins.ok;rw[m.aA] at aW;cases r with
  | none=>exact F5 m.ins.fM aW d hd e0
  | some q =>
   obtain⟨up,aA⟩:=q;exact F5 m.ins.fM aW.2.2.2.1 d hd (append_eq_nil_iff.1 e0).1
 have I:=za (u:=v) (fun y hy=>by obtain⟨x,hx,hy⟩:=mem_flatMap.1 hy;exact fr x (mem_append_left _ hx) y hy) s1;have Z:=za (u:=v) (fun y hy=>by obtain⟨x,hx,hy⟩:=mem_flatMap.1 hy;exact fr x (mem_append_right _ hx) y hy) s3;have g1':=za (u:=v) U g1;have hh:∀e':Int,(sX u d ((t.pg i).kids[j]'m.hj) r).headD e'=(cH t d ((t.pg i).kids[j]'m.hj)).headD e':=fun e'=>by
  cases h1:sX u d ((t.pg i).kids[j]'m.hj) r with
  | nil=>exact absurd h1 E
  | cons a b =>
   cases h2:cH t d ((t.pg i).kids[j]'m.hj) with
   | nil=>exact absurd h2 hne
   | cons a' b'=>rw[h1,h2] at g2;exact g2
 rw[append_assoc];refine⟨?_,?_⟩
 ·rw[BU,BU];refine⟨?_,g1',Z⟩;rw[E2 E,hh];rw[E2 hne] at I;exact I
 cases hA:((t.pg i).kids.take j).flatMap (cH t d) with
 | cons a b=>rfl
 | nil=>rw[nil_append,nil_append,E2 E,E2 hne,hh]
end
end Go.Proofs.YtbplamgacibdaaaGreatDoor.Tr

namespace Go.Proofs.YtbplamgacibdaaaGreatDoor.Tr
open List
open Go.Proofs.Tryz
open Go.Lib (compareBytes)
variable {t u:aF} {h:Nat} {i:Int} {low high:K} {j:Nat} {k:K} {row:Int}
theorem acg{α:Type}{l:List α}{j E:Nat}(I:E<l.length)(hne:E≠j):l[E]∈l.take j++l.drop (j+1):=by
 rcases Nat.lt_or_ge E j with h|h
 ·exact mem_append_left _ (mem_iff_getElem.2 ⟨E,by rw[length_take];omega,by rw[getElem_take]⟩)
 refine mem_append_right _ (mem_iff_getElem.2 ⟨E-(j+1),by rw[length_drop];omega,?_⟩);rw[getElem_drop];congr 1;omega
theorem JN(m:jP t u h i low high j k row none):pc t u (h+1) i low high k row none:=by
 have E:oL u u i:=⟨Nat.le_refl _,fun _ _ _ _=>rfl⟩
 have I:=m.same;have Bb:=m.ok.idx;obtain⟨q1,q2,q3,q4,q5⟩:=m.ok;have aW:dX u h ((t.pg i).kids[j]'m.hj) (iP low (t.pg i) j) (iA (t.pg i) j):=(by have:=m.ins.ok;rw[m.aA] at this;exact this)
 have qa:ids u (h+1) i=i::(((t.pg i).kids.take j).flatMap (ids t h)++oq u h ((t.pg i).kids[j]'m.hj) none++((t.pg i).kids.drop (j+1)).flatMap (ids t h)):=by
  rw[ids,I];conv=>lhs;rw[ve m.hj]
  rw[JM (fun x hx=>(m.qF E (mem_append_left _ hx)).1) (fun x hx=>(m.qF E (mem_append_right _ hx)).1)];rfl
 have O:eA u (h+1) i=((t.pg i).kids.take j).flatMap (eA t h)++Gr u h ((t.pg i).kids[j]'m.hj) none++((t.pg i).kids.drop (j+1)).flatMap (eA t h):=by
  rw[eA,I];conv=>lhs;rw[ve m.hj]
  rw[JM (fun x hx=>(m.qF E (mem_append_left _ hx)).2.1) (fun x hx=>(m.qF E (mem_append_right _ hx)).2.1)];rfl
 have U:∀d,d<=h->cH u (d+1) i=((t.pg i).kids.take j).flatMap (cH t d)++sX u d ((t.pg i).kids[j]'m.hj) none++((t.pg i).kids.drop (j+1)).flatMap (cH t d):=fun d hd=>by
  rw[cH,I];conv=>lhs;rw[ve m.hj]
  rw[JM (fun x hx=>(m.qF E (mem_append_left _ hx)).2.2 d hd) (fun x hx=>(m.qF E (mem_append_right _ hx)).2.2 d hd)];rfl
 have hle:=m.ins.le;have V8:=m.ins.more;have Z:=m.SP;refine⟨hle,by omega,m.ins.root,m.ins.fM,fun x h0 hx hne=>?_,?_,?_,?_,?_,?_,?_⟩
 ·refine m.ins.out x h0 hx fun hm=>hne ?_;rw[m.aA] at hm;rw[ids];exact mem_cons_of_mem _ (mem_flatMap.2 ⟨_,getElem_mem _,hm⟩)
 ·refine⟨⟨Bb.1,by omega⟩,by rw[I];exact q2,by rw[I];exact q3,by rw[I];exact q4,?_⟩;rw[I];intro j' kD;by_cases e:j'=j
  ·subst e;exact aW
  exact m.Ut E (acg kD e) (q5 j' kD)
 ·intro x hx;have pH:x∈ids u (h+1) i:=hx;exact WL
 ·show(ids u (h+1) i).Nodup;rw[qa,nodup_cons];exact⟨Z.2,Z.1⟩
 ·show(ids u (h+1) i).length+_=_;rw[qa,length_cons];exact m.Vu
 ·intro x;show x∈eA u (h+1) i↔_;rw[O];exact m.KD x
 intro d hd e hs;cases d with
 | zero=>exact⟨by show(u.pg i).next=e;rw[I];exact hs,rfl⟩
 | succ d =>
  show fk u (cH u (d+1) i) e/\(cH u (d+1) i).headD e=_;rw[U d w4];exact m.Lc E w4 hs
theorem jP.place{up:K}{aA:Int}(m:jP t u h i low high j k row (some (up,aA))):aQ (t.pg i) up=j/\up∉(t.pg i).keys/\lT low high up/\bG low up:=by
 obtain⟨q1,q2,I,O,Z⟩:=m.ok;have po:=m.hp _ (jV q1);have hn:=(po.node q2).1;have aW:=m.ins.ok;rw[m.aA] at aW;obtain⟨o1,o2,o3,o4,o5⟩:=aW;have U:=m.hj;have e9:∀(h0:0<j),bG ((t.pg i).keys[j-1]'w4) up:=fun h0=>by rw[FL h0 w4] at o2;exact o2
 have eL:∀(hl:j<(t.pg i).keys.length),bG up (t.pg i).keys[j]:=fun hl=>by
  rw[F4 hl] at o3;exact o3 (by intro e;have:=(po.lI _ (getElem_mem hl)).1;rw[e] at this;simp at this)
 have fx:aQ (t.pg i) up=j:=by
  unfold aQ;rw[if_neg (by rw[q2];decide)];exact KC po.kv w4 (fun h0=>vt (e9 h0)) eL
 have E:bG low up:=by
  rcases Nat.eq_zero_or_pos j with h0|h0
  ·rw[h0] at o2;exact o2
  exact P1 (O _ (getElem_mem (by omega:j-1<_))) (e9 h0)
 refine⟨fx,fun hm=>?_,⟨vt E,fun hne=>?_⟩,E⟩
 ·obtain⟨a,ha,e⟩:=mem_iff_getElem.1 hm;rcases Nat.lt_or_ge a j with h1|h1
  ·have h2:=e9 w4;rcases Nat.lt_or_ge a (j-1) with h3|h3
   ·have:=mX (nA po.kv h3 w4) h2;rw[e] at this;exact jS _ this
   have:a=j-1:=(by omega)
   subst this;rw[e] at h2;exact jS _ h2
  have h2:=eL w4;rcases Nat.lt_or_ge j a with h3|h3
  ·have:=mX h2 (nA po.kv h3 ha);rw[e] at this;exact jS _ this
  have:a=j:=(by omega)
  subst this;rw[e] at h2;exact jS _ h2
 by_cases hl:j<(t.pg i).keys.length
 ·exact mX (eL hl) (by rw[<-I];exact po.qJ (by rw[I];exact hne) _ (getElem_mem hl))
 rw[KA w4,I] at o3;exact o3 hne
theorem ad9{up:K}{aA:Int}(m:jP t u h i low high j k row (some (up,aA))):pc t (rL u i up aA).1 (h+1) i low high k row (rL u i up aA).2:=by
 obtain⟨p1,p2,p3,p4⟩:=m.place;have es:=m.same;have Bb:=m.ok.idx;have aW:=m.ins.ok;rw[m.aA] at aW;obtain⟨o1,o2,o3,o4,o5⟩:=aW;obtain⟨q1,q2,q3,q4,q5⟩:=m.ok;have hle:=m.ins.le;have V8:=m.ins.more;have U:0<=i/\i<u.ag.length:=⟨Bb.1,by omega⟩
 have Zy:=m.hp _ (jV q1);have po:eN (t.pg i) u.ag.length:=Zy.more w4;have hn:=(po.node q2).1;have mr:=m.hj;have hf:xy (bB (t.pg i) up aA) u.ag.length:=JJ po p2 o1 (by rw[q3];exact p3.2) o5.idx.1 (fun _=>o5.idx.2);have I:(bB (t.pg i) up aA).kids=(t.pg i).kids.take j++((t.pg i).kids[j]'m.hj)::aA::(t.pg i).kids.drop (j+1):=by
  show ir _ (if (t.pg i).leaf=true then _ else _) aA=_;rw[if_neg (by rw[q2];decide),p1];exact P2 m.hj aA
 have aiB:(bB (t.pg i) up aA).keys=ir (t.pg i).keys j up:=by
  show ir _ _ _=_;rw[p1]
 have Z:∀x∈(bB (t.pg i) up aA).keys,¬bG x low:=fun x hx=>by
  rcases u9.1 hx with rfl|h
  ·exact p3.1
  exact q4 x h
 have hKT:jG t h low (t.pg i).kids (t.pg i).keys high:=(BS Zy).1 m.ok |>.2.2.2.2
 -- what is below,in any tree aqZ apz
 have below:∀{v:aF},oL u v i->(∀x,x∈ids u h ((t.pg i).kids[j]'m.hj)++ids u h aA->v.pg x=u.pg x):=fun E x hx=>by
  refine m.below E x hx ?_ ?_
  ·rcases mem_append.1 hx with hx|hx
   ·exact(o4.ids x hx).1
   exact(o5.ids x hx).1
  rcases mem_append.1 hx with hx|hx
  ·exact(o4.ids x hx).2
  exact(o5.ids x hx).2
 have OS:∀{v:aF},oL u v i->_:=fun {v} E=>frame (t:=u) (u:=v) h ((t.pg i).kids[j]'m.hj) (fun x hx=>below E x (mem_append_left _ hx));have OT:∀{v:aF},oL u v i->_:=fun {v} E=>frame (t:=u) (u:=v) h aA (fun x hx=>below E x (mem_append_right _ hx));have Zz:∀{v:aF},oL u v i->jG v h low (bB (t.pg i) up aA).kids (bB (t.pg i) up aA).keys high:=fun {v} E=>by
  have e1:(bB (t.pg i) up aA).kids=ir (t.pg i).kids (j+1) aA:=(by rw[I];exact(P2 m.hj aA).symm)
  rw[e1,aiB];refine SN j m.hj hKT (fun c hc lo hi aW=>m.Ut E ?_ aW) ?_ ?_
  ·rcases aaJ hc with hc|hc
   ·exact mem_append_left _ hc
   exact mem_append_right _ hc
  ·have:=o4.frame E.le (fun x hx=>below E x (mem_append_left _ hx));unfold iP at this;exact this
  have:=o5.frame E.le (fun x hx=>below E x (mem_append_right _ hx));unfold iA at this;rw[q3] at this;exact this
 have Xg:∀{v:aF},oL u v i->(bB (t.pg i) up aA).kids.flatMap (ids v h)=((t.pg i).kids.take j).flatMap (ids t h)++oq u h ((t.pg i).kids[j]'m.hj) (some (up,aA))++((t.pg i).kids.drop (j+1)).flatMap (ids t h):=fun {v} E=>by
  rw[I,Jd (fun x hx=>(m.qF E (mem_append_left _ hx)).1) (fun x hx=>(m.qF E (mem_append_right _ hx)).1),(OS E).1,(OT E).1];rfl
 have V9:∀{v:aF},oL u v i->(bB (t.pg i) up aA).kids.flatMap (eA v h)=((t.pg i).kids.take j).flatMap (eA t h)++Gr u h ((t.pg i).kids[j]'m.hj) (some (up,aA))++((t.pg i).kids.drop (j+1)).flatMap (eA t h):=fun {v} E=>by
  rw[I,Jd (fun x hx=>(m.qF E (mem_append_left _ hx)).2.1) (fun x hx=>(m.qF E (mem_append_right _ hx)).2.1),(OS E).2.1,(OT E).2.1];rfl
 have Xh:∀{v:aF},oL u v i->∀d,d<=h->(bB (t.pg i) up aA).kids.flatMap (cH v d)=((t.pg i).kids.take j).flatMap (cH t d)++sX u d ((t.pg i).kids[j]'m.hj) (some (up,aA))++((t.pg i).kids.drop (j+1)).flatMap (cH t d):=fun {v} E d hd=>by
  rw[I,Jd (fun x hx=>(m.qF E (mem_append_left _ hx)).2.2 d hd) (fun x hx=>(m.qF E (mem_append_right _ hx)).2.2 d hd),(OS E).2.2 d hd,(OT E).2.2 d hd];rfl
 have wu:=m.SP;have CU:=m.Vu;have Xi:∀x:Int,0<=x->x<t.ag.length->x∉ids t (h+1) i->u.pg x=t.pg x/\x≠i:=fun x h0 hx hne=>by
  refine⟨m.ins.out x h0 hx fun hm=>hne ?_,fun e=>hne (by rw[e];exact tV _ _)⟩;rw[m.aA] at hm;rw[ids];exact mem_cons_of_mem _ (mem_flatMap.2 ⟨_,getElem_mem _,hm⟩)
 by_cases h4:(bB (u.pg i) up aA).keys.length<=4
 ·rw[JL h4];rw[es] at h4 |-;have ep:=BF U (bB (t.pg i) up aA);have E:oL u (u.set i (bB (t.pg i) up aA)) i:=⟨by rw[oH];omega,fun x h0 hx hne=>wP U.1 h0 (Ne.symm hne) _⟩
  have qa:ids (u.set i (bB (t.pg i) up aA)) (h+1) i=i::(((t.pg i).kids.take j).flatMap (ids t h)++oq u h ((t.pg i).kids[j]'m.hj) (some (up,aA))++((t.pg i).kids.drop (j+1)).flatMap (ids t h)):=(by rw[ids,ep,Xg E])
  refine⟨by rw[oH];omega,by rw[oH];omega,m.ins.root,by rw[oH];exact Jb m.ins.fM (hf.ok h4),fun x h0 hx hne=>?_,?_,fun x hx=>?_,?_,?_,fun x=>?_,fun d hd e hs=>?_⟩
  ·obtain⟨e1,e2⟩:=Xi x h0 hx hne;rw[E.pg x h0 w4 e2,e1]
  ·show dX _ (h+1) i low high;refine(BS (n:=u.ag.length) (by rw[ep];exact hf.ok h4)).2 ?_;rw[ep];exact⟨by rw[oH];exact U,q2,q3,Z,Zz E⟩
  ·have pH:x∈ids (u.set i (bB (t.pg i) up aA)) (h+1) i:=hx;exact WL
  ·show(ids _ (h+1) i).Nodup;rw[qa,nodup_cons];exact⟨wu.2,wu.1⟩
  ·show(ids _ (h+1) i).length+_=_;rw[qa,length_cons,oH];exact CU
  ·show x∈eA _ (h+1) i↔_;rw[eA,ep,V9 E];exact m.KD x
  cases d with
  | zero=>exact⟨by show((u.set i _).pg i).next=e;rw[ep];exact hs,rfl⟩
  | succ d =>
   show fk _ (cH _ (d+1) i) e/\(cH _ (d+1) i).headD e=_;rw[cH,ep,Xh E d w4];exact m.Lc E w4 hs
 have h5:(bB (t.pg i) up aA).keys.length=5:=(by rw[es] at h4;have:=hf.ec;omega)
 rw[Jc h4];rw[es] at h4 |-;have D2:(bB (t.pg i) up aA).leaf=false:=q2;have ea:=Q5 U (eB (bB (t.pg i) up aA) u.ag.length) (cA (bB (t.pg i) up aA));have eb:=SO u i (eB (bB (t.pg i) up aA) u.ag.length) (cA (bB (t.pg i) up aA));have E:oL u (jH u i (eB (bB (t.pg i) up aA) u.ag.length) (cA (bB (t.pg i) up aA))) i:=⟨by rw[pT];omega,fun x h0 hx hne=>Qn U.1 ⟨h0,hx⟩ (Ne.symm hne) _ _⟩
 obtain⟨u1,u2⟩:=Us hf.kv h5 Z;have D0:ij (bB (t.pg i) up aA)∈(bB (t.pg i) up aA).keys:=(by rw[zD h5];exact getElem_mem _)
 have e9:=Vt hf h5 w4;have eL:=Ur (m:=u.ag.length+1) hf h5 w4;have tF:=Qm 2 w4 (Zz E);rw[<-zD h5] at tF;have Ib:(eB (bB (t.pg i) up aA) u.ag.length).kids=(bB (t.pg i) up aA).kids.take 3:=by
  show(bB (t.pg i) up aA).kids.take (if _ then _ else _)=_;rw[if_neg (by rw[D2];decide)]
 have Ic:(cA (bB (t.pg i) up aA)).kids=(bB (t.pg i) up aA).kids.drop 3:=by
  show(bB (t.pg i) up aA).kids.drop (if _ then _ else _)=_;rw[if_neg (by rw[D2];decide)]
 have ehy:(cA (bB (t.pg i) up aA)).keys=(bB (t.pg i) up aA).keys.drop 3:=by
  show(bB (t.pg i) up aA).keys.drop (if _ then _ else _)=_;rw[if_neg (by rw[D2];decide)]
 have O:∀{α:Type} (f:Int->List α),((bB (t.pg i) up aA).kids.take 3).flatMap f++((bB (t.pg i) up aA).kids.drop 3).flatMap f=(bB (t.pg i) up aA).kids.flatMap f:=fun f=>by rw[<-flatMap_append,take_append_drop]
 have qa:oq (jH u i (eB (bB (t.pg i) up aA) u.ag.length) (cA (bB (t.pg i) up aA))) (h+1) i (some (ij (bB (t.pg i) up aA),(u.ag.length:Int)))=(i::((bB (t.pg i) up aA).kids.take 3).flatMap (ids (jH u i (eB (bB (t.pg i) up aA) u.ag.length) (cA (bB (t.pg i) up aA))) h))++((u.ag.length:Int)::((bB (t.pg i) up aA).kids.drop 3).flatMap (ids (jH u i (eB (bB (t.pg i) up aA) u.ag.length) (cA (bB (t.pg i) up aA))) h)):=by
  show ids _ (h+1) i++ids _ (h+1) _=_;rw[ids,ids,ea,eb,Ib,Ic]
 have pid:=(O (ids (jH u i (eB (bB (t.pg i) up aA) u.ag.length) (cA (bB (t.pg i) up aA))) h)).trans (Xg E);have akV:∀x∈((t.pg i).kids.take j).flatMap (ids t h)++oq u h ((t.pg i).kids[j]'m.hj) (some (up,aA))++((t.pg i).kids.drop (j+1)).flatMap (ids t h),x<u.ag.length:=fun x hx=>by
  rcases mem_append.1 hx with hx|hx
  ·rcases mem_append.1 hx with hx|hx
   ·obtain⟨c,hc,hx⟩:=mem_flatMap.1 hx;obtain⟨a,ha,rfl⟩:=mem_iff_getElem.1 (mem_of_mem_take hc);have:=(q5 a ha).ids x hx;omega
   rcases mem_append.1 hx with hx|hx
   ·exact(o4.ids x hx).2
   exact(o5.ids x hx).2
  obtain⟨c,hc,hx⟩:=mem_flatMap.1 hx;obtain⟨a,ha,rfl⟩:=mem_iff_getElem.1 (mem_of_mem_drop hc);have:=(q5 a ha).ids x hx;omega
 refine⟨by rw[pT];omega,by rw[pT];omega,m.ins.root,?_,fun x h0 hx hne=>?_,⟨hf.lI _ D0,u1,fun hne=>?_,?_,?_⟩,fun x hx=>?_,?_,?_,fun x=>?_,fun d hd e hs=>?_⟩
 ·rw[pT];exact Qo m.ins.fM w4 e9 eL
 ·obtain⟨e1,e2⟩:=Xi x h0 hx hne;rw[E.pg x h0 w4 e2,e1]
 ·have:=hf.qJ (by show(t.pg i).high≠[];rw[q3];exact hne) _ D0;rw[<-q3];exact this
 ·refine(BS (n:=(u.ag.length:Int)+1) (by rw[ea];exact e9)).2 ?_;rw[ea,Ib];exact⟨by rw[pT];omega,D2,rfl,fun x hx=>Z x (mem_of_mem_take hx),tF.1⟩
 ·refine(BS (n:=(u.ag.length:Int)+1) (by rw[eb];exact eL)).2 ?_;rw[eb,Ic,ehy];refine⟨by rw[pT];omega,D2,q3,fun x hx=>u2 x ?_,tF.2⟩;rw[show 3=2+1 from rfl,<-drop_drop] at hx;exact mem_of_mem_drop hx
 ·rw[qa] at hx;have ek:x=i\/x=(u.ag.length:Int)\/x∈((bB (t.pg i) up aA).kids.take 3).flatMap (ids (jH u i (eB (bB (t.pg i) up aA) u.ag.length) (cA (bB (t.pg i) up aA))) h)++((bB (t.pg i) up aA).kids.drop 3).flatMap (ids (jH u i (eB (bB (t.pg i) up aA) u.ag.length) (cA (bB (t.pg i) up aA))) h):=by
   rcases mem_append.1 hx with hx|hx
   ·rcases mem_cons.1 hx with h|h
    ·exact .inl h
    exact .inr (.inr (mem_append_left _ h))
   rcases mem_cons.1 hx with h|h
   ·exact .inr (.inl h)
   exact .inr (.inr (mem_append_right _ h))
  rw[pid] at ek;rcases ek with rfl|rfl|hx
  ·exact .inl (tV _ _)
  ·exact .inr w4
  exact m.Vd x hx
 ·rw[qa];have hnd:=wu.1;rw[<-pid,nodup_append] at hnd;have qp:=wu.2;rw[<-pid] at qp;simp only[mem_append,not_or] at qp;have o9:∀x∈((bB (t.pg i) up aA).kids.take 3).flatMap (ids (jH u i (eB (bB (t.pg i) up aA) u.ag.length) (cA (bB (t.pg i) up aA))) h)++((bB (t.pg i) up aA).kids.drop 3).flatMap (ids (jH u i (eB (bB (t.pg i) up aA) u.ag.length) (cA (bB (t.pg i) up aA))) h),x<u.ag.length:=fun x hx=>akV x (by rw[<-pid];exact hx);rw[nodup_append,nodup_cons,nodup_cons];refine⟨⟨qp.1,hnd.1⟩,⟨fun hm=>?_,hnd.2.1⟩,fun a ha b hb e=>?_⟩
  ·have:=o9 _ (mem_append_right _ hm);omega
  subst e;rcases mem_cons.1 ha with rfl|ha
  ·rcases mem_cons.1 hb with hb|hb
   ·omega
   exact qp.2 hb
  rcases mem_cons.1 hb with rfl|hb
  ·have:=o9 _ (mem_append_left _ ha);omega
  exact hnd.2.2 a ha a hb rfl
 ·rw[qa,pT];have:=congrArg length pid;rw[length_append] at this;rw[length_append,length_cons,length_cons];omega
 ·show x∈eA _ (h+1) i++eA _ (h+1) _↔_;rw[eA,eA,ea,eb,Ib,Ic,O,V9 E];exact m.KD x
 cases d with
 | zero =>
  refine⟨?_,rfl⟩;show((jH u i _ _).pg i).next=_/\((jH u i _ _).pg _).next=e;rw[ea,eb];exact⟨rfl,hs⟩
 | succ d =>
  show fk _ (cH _ (d+1) i++cH _ (d+1) _) e/\(cH _ (d+1) i++cH _ (d+1) _).headD e=_;rw[cH,cH,ea,eb,Ib,Ic,O,Xh E d w4];exact m.Lc E w4 hs
theorem F6:∀{h:Nat} {t:aF} (hp:∀p∈t.ag,eN p t.ag.length) {i:Int} {low high:K} (ok:dX t h i low high) (nd:(ids t h i).Nodup) {k:K} {row:Int} (hk:lT low high k) (hn:∀x∈eA t h i,x.1≠k) (hl:1<=k.length/\k.length<=100) (hr:0<=row),pc t (fu t k row h i).1 h i low high k row (fu t k row h i).2
 | 0,t,hp,i,low,high,ok,nd,k,row,hk,hn,hl,hr=>ad8 hp ok hk hn hl hr
 | h+1,t,hp,i,low,high,ok,nd,k,row,hk,hn,hl,hr=>by
  obtain⟨q1,q2,I,U,O⟩:=id ok;have po:=hp _ (jV q1);obtain⟨d1,d2⟩:=down po q2 I hk;have E:=(wQ d1 nd).1;have ih:=F6 (h:=h) hp (O _ d1) E d2 (fun x hx=>hn x NG) hl hr;rw[<-uc d1] at ih;rw[fu];generalize fu t k row h ((t.pg i).kids.getD (aQ (t.pg i) k) 0)=R at ih;obtain⟨u,r⟩:=R;have m:jP t u h i low high (aQ (t.pg i) k) k row r:=⟨hp,ok,nd,d1,d2,ih⟩
  cases r with
  | none=>exact JN m
  | some q=>obtain⟨up,aA⟩:=q;exact ad9 m

end Go.Proofs.YtbplamgacibdaaaGreatDoor.Tr
namespace Go.Proofs.YtbplamgacibdaaaGreatDoor.Tr
open List
open Go.Proofs.Tryz
open Go.Lib (compareBytes)
variable {t:aF} {h:Nat} {k:K} {row:Int}
variable {p:c8}
def lu(t:aF)(h:Nat):List (K×Int):=eA t h t.root
def gF(t:aF)(h:Nat)(k:K)(row:Int):aF:=aiA (fu t k row h t.root)
def jt(u:aF)(up:K)(aA:Int):aF:=⟨u.ag++[⟨false,[up],[u.root,aA],[],-1⟩],u.ag.length⟩
theorem ud(u:aF)(up:K)(aA:Int):(jt u up aA).ag.length=u.ag.length+1:=by simp[jt]
theorem aea(u:aF)(up:K)(aA:Int):(jt u up aA).pg u.ag.length=⟨false,[up],[u.root,aA],[],-1⟩:=by
 unfold aF.pg jt;rw[getD_eq_getElem?_getD,getElem?_append_right w4];simp
theorem aeb{u:aF}{x:Int}(hx:0<=x/\x<u.ag.length)(up:K)(aA:Int):(jt u up aA).pg x=u.pg x:=by
 unfold aF.pg jt;rw[getD_eq_getElem?_getD,getD_eq_getElem?_getD,getElem?_append_left w4]
theorem Valid.range(v:Valid t h):0<=t.root/\t.root<t.ag.length:=v.ok.idx
theorem SQ(hp:∀p∈t.ag,eN p t.ag.length):∀{h:Nat} {i:Int} {low high:K},dX t h i low high->h+1<=(ids t h i).length
 | 0,_,_,_,_=>by simp[ids]
 | h+1,i,low,high,⟨q1,q2,I,O,E⟩=>by
  have po:=hp _ (jV q1);have hn:=(po.node q2).1;have h0:0<(t.pg i).kids.length:=(by omega)
  have:=SQ hp (E 0 h0);rw[ids,length_cons,ve h0,flatMap_append,flatMap_cons,length_append,length_append];omega
theorem Valid.high(v:Valid t h):h<t.ag.length:=by
 have:=SQ v.fM v.ok;rw[v.all] at this;omega
theorem ach(v:Valid t h)(hn:∀x∈lu t h,x.1≠k)(hl:1<=k.length/\k.length<=100)(hr:0<=row)(hm:t.ag.length+(h+2)<=4000) :
  ∃h',(h<=h'/\h'<=h+1)/\Valid (gF t h k row) h'/\(t.ag.length<=(gF t h k row).ag.length/\(gF t h k row).ag.length<=t.ag.length+(h+2))/\∀x,x∈lu (gF t h k row) h'↔x=(k,row)\/x∈lu t h:=by
 have I:=F6 v.fM v.ok v.Au (uk k) hn hl hr;unfold gF;generalize fu t k row h t.root=R at I;obtain⟨u,r⟩:=R;have hle:t.ag.length<=u.ag.length:=I.le;have V8:u.ag.length<=t.ag.length+(h+1):=I.more;have O:(oq u h t.root r).length+t.ag.length=(ids t h t.root).length+u.ag.length:=I.Zx;rw[v.all] at O;have aq0:=v.pos;have E:u.root=t.root:=I.root;cases r with
 | none =>
  refine⟨h,⟨Nat.le_refl _,by omega⟩,⟨by show 1<=u.ag.length;omega,by show u.ag.length<=4000;omega,I.fM,?_,?_,?_,fun d hd=>?_⟩,⟨hle,by show u.ag.length<=_;omega⟩,fun x=>?_⟩
  ·show dX u h u.root [] [];rw[E];exact I.ok
  ·show(ids u h u.root).Nodup;rw[E];exact I.nodup
  ·show(ids u h u.root).length=u.ag.length;rw[E];have:(ids u h t.root).length+t.ag.length=t.ag.length+u.ag.length:=O;omega
  ·show fk u (cH u d u.root) (-1);rw[E];exact(I.pM d hd (-1) (v.pM d hd)).1
  show x∈eA u h u.root↔_;rw[E];exact I.eA x
 | some q =>
  obtain⟨up,aA⟩:=q;obtain⟨o1,o2,o3,o4,o5⟩:(1<=up.length/\up.length<=100)/\bG [] up/\(([]:K)≠[]->bG up [])/\dX u h t.root [] up/\dX u h aA up []:=I.ok;have ho:∀x∈ids u h t.root++ids u h aA,(jt u up aA).pg x=u.pg x:=fun x hx=>by
   refine aeb ?_ up aA;rcases mem_append.1 hx with hx|hx
   ·exact o4.ids x hx
   exact o5.ids x hx
  have f1:=frame (t:=u) (u:=jt u up aA) h t.root (fun x hx=>ho x (mem_append_left _ hx));have f2:=frame (t:=u) (u:=jt u up aA) h aA (fun x hx=>ho x (mem_append_right _ hx));have g1:dX (jt u up aA) h t.root [] up:=o4.frame (by rw[ud];omega) (fun x hx=>ho x (mem_append_left _ hx));have g2:dX (jt u up aA) h aA up []:=o5.frame (by rw[ud];omega) (fun x hx=>ho x (mem_append_right _ hx));have U:=aea u up aA;rw[E] at U;have hnd:=I.nodup;have qa:ids (jt u up aA) (h+1) u.ag.length=(u.ag.length:Int)::(ids u h t.root++ids u h aA):=by
   rw[ids,U];show _::([t.root,aA].flatMap (ids (jt u up aA) h))=_;rw[flatMap_cons,flatMap_cons,flatMap_nil,append_nil,f1.1,f2.1]
  have Z:eN (⟨false,[up],[t.root,aA],[],-1⟩:c8) (u.ag.length+1:Nat):=by
   have i1:=o4.idx;have i2:=o5.idx;refine⟨by simp,by simp,by simp,by simp;omega,by simp,(fun h=>by cases h),fun _=>⟨rfl,by simp⟩,fun x hx=>?_,fun h=>absurd rfl h,by simp,fun x hx=>?_,fun _ x hx=>?_⟩
   ·have:x=up:=(by simpa using hx)
    subst this;exact o1
   ·have:x=t.root\/x=aA:=(by simpa using hx)
    rcases this with rfl|rfl
    ·exact i1.1
    exact i2.1
   have:x=t.root\/x=aA:=(by simpa using hx)
   rcases this with rfl|rfl<;>omega
  refine⟨h+1,⟨by omega,by omega⟩,⟨?_,?_,?_,?_,?_,?_,fun d hd=>?_⟩,⟨?_,?_⟩,fun x=>?_⟩
  ·show 1<=(jt u up aA).ag.length;rw[ud];omega
  ·show(jt u up aA).ag.length<=4000;rw[ud];omega
  ·show ∀p∈(jt u up aA).ag,eN p (jt u up aA).ag.length;rw[ud];intro p hp;rcases mem_append.1 hp with hp|hp
   ·have AS:eN p u.ag.length:=I.fM p hp;exact AS.more w4
   rw[mem_singleton] at hp;subst hp;rw[E];exact Z
  ·show dX (jt u up aA) (h+1) u.ag.length [] [];refine(BS (n:=(u.ag.length+1:Nat)) (by rw[U];exact Z)).2 ?_;rw[U];refine⟨by rw[ud];omega,rfl,rfl,fun x _=>La x,?_⟩;rw[qy,BG];exact⟨g1,g2⟩
  ·show(ids (jt u up aA) (h+1) u.ag.length).Nodup;rw[qa,nodup_cons];refine⟨fun hm=>?_,hnd⟩;rcases mem_append.1 hm with hm|hm
   ·have:=o4.ids _ hm;omega
   have:=o5.ids _ hm;omega
  ·show(ids (jt u up aA) (h+1) u.ag.length).length=(jt u up aA).ag.length;rw[qa,ud,length_cons];have:(ids u h t.root++ids u h aA).length+t.ag.length=t.ag.length+u.ag.length:=O;omega
  ·show fk (jt u up aA) (cH (jt u up aA) d u.ag.length) (-1);cases d with
   | zero=>show((jt u up aA).pg u.ag.length).next = -1;rw[U]
   | succ d =>
    rw[cH,U];show fk _ ([t.root,aA].flatMap (cH (jt u up aA) d)) (-1);rw[flatMap_cons,flatMap_cons,flatMap_nil,append_nil,f1.2.2 d w4,f2.2.2 d w4];refine za (fun x hx=>?_) (I.pM d w4 (-1) (v.pM d w4)).1;have pH:x∈cH u d t.root++cH u d aA:=hx;rw[ho x ?_];rcases mem_append.1 pH with pH|pH
    ·exact mem_append_left _ (sD h _ d w4 x pH)
    exact mem_append_right _ (sD h _ d w4 x pH)
  ·show t.ag.length<=(jt u up aA).ag.length;rw[ud];omega
  ·show(jt u up aA).ag.length<=_;rw[ud];omega
  show x∈eA (jt u up aA) (h+1) u.ag.length↔_;rw[eA,U];show x∈[t.root,aA].flatMap (eA (jt u up aA) h)↔_;rw[flatMap_cons,flatMap_cons,flatMap_nil,append_nil,f1.2.1,f2.2.1];exact I.eA x
theorem Q6:Valid nL 0:=by
 refine⟨by decide,by decide,fun p hp=>?_,⟨by decide,rfl,rfl,fun k hk=>by cases hk⟩,by simp[ids],rfl,fun d hd=>?_⟩
 ·have:p=⟨true,[],[],[],-1⟩:=(by simpa[nL] using hp)
  subst this;exact⟨by simp,by simp,by simp,by simp[nL],by simp,fun _=>rfl,(fun h=>by cases h),(fun k hk=>by cases hk),(fun h=>absurd rfl h),by simp,(fun n hn=>by cases hn),(fun h=>by cases h)⟩
 obtain rfl:d=0:=(by omega)
 rfl
theorem aec:lu nL 0=[]:=rfl
theorem Fp(hl:p.kids.length=p.keys.length){a:Nat}(ha:a<p.keys.length):(fi p)[a]'(by unfold fi;rw[length_zip];omega)=(p.keys[a],p.kids[a]'w4):=by unfold fi;rw[getElem_zip]
theorem Bq(hl:p.kids.length=p.keys.length){x:K×Int}:x∈fi p↔∃a,∃(ha:a<p.keys.length),x=(p.keys[a],p.kids[a]'w4):=by
 constructor
 ·intro h;obtain⟨a,ha,e⟩:=mem_iff_getElem.1 h;have E:a<p.keys.length:=(by unfold fi at ha;rw[length_zip] at ha;omega)
  exact⟨a,E,by rw[<-e,Fp hl E]⟩
 rintro⟨a,ha,rfl⟩;exact mem_iff_getElem.2 ⟨a,by unfold fi;rw[length_zip];omega,Fp hl ha⟩
def B8(t:aF)(k:K)(h:Nat):Prop:=∃(ha:aQ (t.pg (aL t k h t.root)) k<(t.pg (aL t k h t.root)).keys.length),(t.pg (aL t k h t.root)).keys[aQ (t.pg (aL t k h t.root)) k]=k
theorem Valid.leaf(v:Valid t h)(k:K):(0<=aL t k h t.root/\aL t k h t.root<t.ag.length)/\(t.pg (aL t k h t.root)).leaf=true:=by
 obtain⟨_,_,_,_,_,_,_,h3,_⟩:=BE v.fM v.ok (uk k);exact⟨h3.1,h3.2.1⟩
theorem found(v:Valid t h)(k:K)(row:Int):(k,row)∈lu t h↔∃(ha:aQ (t.pg (aL t k h t.root)) k<(t.pg (aL t k h t.root)).keys.length),(t.pg (aL t k h t.root)).keys[aQ (t.pg (aL t k h t.root)) k]=k/\(t.pg (aL t k h t.root)).kids.getD (aQ (t.pg (aL t k h t.root)) k) 0=row:=by
 obtain⟨pre,post,lo,hi,e,h1,h2,h3,h4⟩:=BE v.fM v.ok (uk k);have po:=v.fM _ (jV h3.1);have fT:=h3.2.1;have hlen:=po.leaf fT;unfold lu;rw[wY,e,flatMap_append,flatMap_cons];generalize I:t.pg (aL t k h t.root)=p at *;have fx:aQ p k=gL p.keys k:=(by unfold aQ;rw[if_pos fT])
 rw[fx];simp only[mem_append];constructor
 ·rintro(hx|hx|hx)
  ·obtain⟨l,hl,hx⟩:=mem_flatMap.1 hx;exact absurd (h1 l hl _ hx) (jS k)
  ·obtain⟨a,ha,e2⟩:=(Bq hlen).1 hx;injection e2 with E O
   have:gL p.keys k=a:=by
    rcases Nat.lt_trichotomy (gL p.keys k) a with h5|h5|h5
    ·exfalso;have:=Bp (keys:=p.keys) (k:=k) w4;have h6:=nA po.kv h5 ha;rw[<-E] at h6;exact this h6
    ·exact h5
    have:=(BC h5).2;rw[<-E] at this;exact absurd this (jS k)
   subst this;exact⟨ha,E.symm,by rw[getD_eq_getElem?_getD,getElem?_eq_getElem w4];exact O.symm⟩
  obtain⟨l,hl,hx⟩:=mem_flatMap.1 hx;exact absurd (h2 l hl _ hx) (jS k)
 rintro⟨ha,e1,e2⟩;refine .inr (.inl ((Bq hlen).2 ⟨_,ha,?_⟩));rw[getD_eq_getElem?_getD,getElem?_eq_getElem w4] at e2;rw[e1];congr 1;exact e2.symm
theorem Br(v:Valid t h)(k:K):B8 t k h↔∃row,(k,row)∈lu t h:=by
 constructor
 ·rintro⟨ha,e⟩;exact⟨_,(found v k _).2 ⟨ha,e,rfl⟩⟩
 rintro⟨row,hr⟩;obtain⟨ha,e,_⟩:=(found v k row).1 hr;exact⟨ha,e⟩
def kS(p:c8)(a:Nat):c8:={p with keys:=p.keys.eraseIdx a,kids:=p.kids.eraseIdx a}
def gY(t:aF)(h:Nat)(k:K):aF:=t.set (aL t k h t.root) (kS (t.pg (aL t k h t.root)) (aQ (t.pg (aL t k h t.root)) k))
theorem ahf{n:Int}(hp:eN p n)(hl:p.leaf=true){a:Nat}(ha:a<p.keys.length):eN (kS p a) n:=by
 have hlen:=hp.leaf hl;refine⟨?_,hp.hlen,hp.xO,hp.xB,hp.xP,fun _=>?_,fun h=>?_,fun k hk=>hp.lI k ((eraseIdx_sublist _ _).subset hk),fun hne k hk=>hp.qJ hne k ((eraseIdx_sublist _ _).subset hk),hp.kv.sublist (eraseIdx_sublist _ _),fun x hx=>hp.aA x ((eraseIdx_sublist _ _).subset hx),fun h=>?_⟩
 ·show(p.keys.eraseIdx a).length<=4;rw[length_eraseIdx_of_lt ha];have:=hp.ec;omega
 ·show(p.kids.eraseIdx a).length=(p.keys.eraseIdx a).length;rw[length_eraseIdx_of_lt ha,length_eraseIdx_of_lt w4,hlen]
 ·have:p.leaf=false:=h;rw[hl] at this;cases this
 have:p.leaf=false:=h;rw[hl] at this;cases this
theorem Q7{α β:Type}:∀{a:List α} {b:List β} {n:Nat},(a.eraseIdx n).zip (b.eraseIdx n)=(a.zip b).eraseIdx n
 | [],_,n=>by simp
 | _::_,[],n=>by cases n<;>simp
 | x::a,y::b,0=>by simp
 | x::a,y::b,n+1=>by simp[Q7 (a:=a) (b:=b) (n:=n)]
theorem SR{q:c8}{l:Int}(hq:q.leaf=true)(Z:q.high=(t.pg l).high)(hx:q.next=(t.pg l).next)(hl:0<=l/\l<t.ag.length)(fT:(t.pg l).leaf=true)(E:∀k∈q.keys,k∈(t.pg l).keys):∀{h:Nat} {i:Int} {low high:K},dX t h i low high ->
  dX (t.set l q) h i low high/\ids (t.set l q) h i=ids t h i/\∀d,d<=h->cH (t.set l q) d i=cH t d i
 | 0,i,low,high,⟨q1,q2,I,O⟩=>by
  refine⟨?_,rfl,fun d hd=>by cases Nat.le_zero.1 hd;rfl⟩;by_cases e:l=i
  ·subst e;rw[dX,BF hl,oH];exact⟨q1,hq,by rw[Z];exact I,fun k hk=>O k (E k hk)⟩
  rw[dX,wP hl.1 q1.1 e,oH];exact⟨q1,q2,I,O⟩
 | h+1,i,low,high,⟨q1,q2,I,O,q5⟩=>by
  have e:l≠i:=fun e=>by rw[e,q2] at fT;cases fT
  have U:=wP (t:=t) hl.1 q1.1 e q;have ih:=fun j (hj:j<(t.pg i).kids.length)=>SR hq Z hx hl fT E (q5 j hj);refine⟨?_,?_,fun d hd=>?_⟩
  ·rw[dX,U,oH];exact⟨q1,q2,I,O,fun j hj=>(ih j hj).1⟩
  ·rw[ids,ids,U];congr 1;refine rm fun c hc=>?_;obtain⟨j,hj,rfl⟩:=mem_iff_getElem.1 hc;exact(ih j hj).2.1
  cases d with
  | zero=>rfl
  | succ d =>
   rw[cH,cH,U];refine rm fun c hc=>?_;obtain⟨j,hj,rfl⟩:=mem_iff_getElem.1 hc;exact(ih j hj).2.2 d w4
theorem aci(v:Valid t h)(ht:B8 t k h):Valid (gY t h k) h/\(gY t h k).ag.length=t.ag.length/\∀x,x∈lu (gY t h k) h↔x∈lu t h/\x.1≠k:=by
 obtain⟨ha,hk⟩:=ht;obtain⟨hl,fT⟩:=v.leaf k;have po:=v.fM _ (jV hl);have hq:=ahf po fT ha;have hlen:=po.leaf fT;have S:=fun {i:Int} {low high:K} (ok:dX t h i low high)=>SR (t:=t) (q:=kS (t.pg (aL t k h t.root)) (aQ (t.pg (aL t k h t.root)) k)) (l:=aL t k h t.root) fT rfl rfl hl fT (fun k hk=>(eraseIdx_sublist _ _).subset hk) ok;obtain⟨s1,s2,s3⟩:=S v.ok;have hle:(gY t h k).ag.length=t.ag.length:=oH _ _ _;refine⟨⟨by rw[hle];exact v.pos,by rw[hle];exact v.oo,?_,s1,?_,?_,fun d hd=>?_⟩,hle,fun x=>?_⟩
 ·rw[hle];exact Jb v.fM hq
 ·show(ids (gY t h k) h t.root).Nodup;unfold gY;rw[s2];exact v.Au
 ·show(ids (gY t h k) h t.root).length=_;rw[hle];unfold gY;rw[s2];exact v.all
 ·show fk (gY t h k) (cH (gY t h k) d t.root) (-1);unfold gY;rw[s3 d hd];refine za (fun y hy=>?_) (v.pM d hd);have E:=v.ok.ids y (sD h _ d hd y hy);by_cases e:aL t k h t.root=y
  ·rw[<-e,BF hl];rfl
  rw[wP hl.1 E.1 e]
 obtain⟨pre,post,lo,hi,e,h1,h2,h3,h4⟩:=BE v.fM v.ok (uk k);have hlv:(cH t h t.root).Nodup->aL t k h t.root∉pre/\aL t k h t.root∉post:=fun hn=>by
  rw[e,nodup_append,nodup_cons] at hn;exact⟨fun hm=>hn.2.2 _ hm _ (mem_cons_self) rfl,hn.2.1.1⟩
 have e9:∀y∈pre,fi ((gY t h k).pg y)=fi (t.pg y)\/y=aL t k h t.root:=fun y hy=>by
  by_cases e':aL t k h t.root=y
  ·exact .inr e'.symm
  left;have E:=v.ok.ids y (sD h _ h (Nat.le_refl _) y (by rw[e];exact mem_append_left _ hy));unfold gY;rw[wP hl.1 E.1 e']
 have rS:∀y∈post,fi ((gY t h k).pg y)=fi (t.pg y)\/y=aL t k h t.root:=fun y hy=>by
  by_cases e':aL t k h t.root=y
  ·exact .inr e'.symm
  left;have E:=v.ok.ids y (sD h _ h (Nat.le_refl _) y (by rw[e];exact mem_append_right _ (mem_cons_of_mem _ hy)));unfold gY;rw[wP hl.1 E.1 e']
 have O:(k,(t.pg (aL t k h t.root)).kids.getD (aQ (t.pg (aL t k h t.root)) k) 0)∈fi (t.pg (aL t k h t.root)):=(Bq hlen).2 ⟨_,ha,by rw[hk,getD_eq_getElem?_getD,getElem?_eq_getElem w4];rfl⟩;have Z:aL t k h t.root∉pre:=fun hm=>absurd (h1 _ hm _ O) (jS k);have U:aL t k h t.root∉post:=fun hm=>absurd (h2 _ hm _ O) (jS k);have ed:fi ((gY t h k).pg (aL t k h t.root))=(fi (t.pg (aL t k h t.root))).eraseIdx (aQ (t.pg (aL t k h t.root)) k):=by
  unfold gY;rw[BF hl];exact Q7
 have fe:∀{A:List Int},(∀y∈A,fi ((gY t h k).pg y)=fi (t.pg y)\/y=aL t k h t.root)->aL t k h t.root∉A->A.flatMap (fun l=>fi ((gY t h k).pg l))=A.flatMap (fun l=>fi (t.pg l)):=fun {A} hA hn=>rm fun y hy=>(hA y hy).resolve_right fun e'=>hn (e' ▸ hy);have I:∀x:K×Int,x∈(fi (t.pg (aL t k h t.root))).eraseIdx (aQ (t.pg (aL t k h t.root)) k)↔x∈fi (t.pg (aL t k h t.root))/\x.1≠k:=fun x=>by
  rw[mem_eraseIdx_iff_getElem];constructor
  ·rintro⟨a,ZA,hne,rfl⟩;refine⟨getElem_mem _,fun hc=>hne ?_⟩;have pE:a<(t.pg (aL t k h t.root)).keys.length:=(by unfold fi at ZA;rw[length_zip] at ZA;omega)
   rw[Fp hlen pE] at hc;have hc:(t.pg (aL t k h t.root)).keys[a]=k:=hc;rcases Nat.lt_trichotomy a (aQ (t.pg (aL t k h t.root)) k) with h5|h5|h5
   ·have:=nA po.kv h5 ha;rw[hc,hk] at this;exact absurd this (jS k)
   ·exact h5
   have:=nA po.kv h5 pE;rw[hc,hk] at this;exact absurd this (jS k)
  rintro⟨hx,hne⟩;obtain⟨a,pE,rfl⟩:=(Bq hlen).1 hx;refine⟨a,by unfold fi;rw[length_zip];omega,fun e'=>hne ?_,Fp hlen pE⟩;subst e';exact hk
 show x∈eA (gY t h k) h t.root↔x∈eA t h t.root/\_;rw[wY,wY];have akW:cH (gY t h k) h t.root=cH t h t.root:=s3 h (Nat.le_refl _);rw[akW,e,flatMap_append,flatMap_cons,flatMap_append,flatMap_cons,fe e9 Z,fe rS U,ed];simp only[mem_append,I];constructor
 ·rintro(hx|hx|hx)
  ·refine⟨.inl hx,fun hc=>?_⟩;obtain⟨l,mu,hx⟩:=mem_flatMap.1 hx;have:=h1 l mu x hx;rw[hc] at this;exact jS k this
  ·exact⟨.inr (.inl hx.1),hx.2⟩
  refine⟨.inr (.inr hx),fun hc=>?_⟩;obtain⟨l,mu,hx⟩:=mem_flatMap.1 hx;have:=h2 l mu x hx;rw[hc] at this;exact jS k this
 rintro⟨hx|hx|hx,hne⟩
 ·exact .inl hx
 ·exact .inr (.inl ⟨hx,hne⟩)
 exact .inr (.inr hx)

end Go.Proofs.YtbplamgacibdaaaGreatDoor.Tr
namespace Go.Proofs.YtbplamgacibdaaaGreatDoor.Tr
open List
open Go.Proofs.Tryz
open Go.Lib (compareBytes)
def sY(lv:List (List Int))(n:Nat):List (List Int):=lv++replicate (n-lv.length) []
def kV(lv:List (List Int))(level:Nat)(i:Int):List (List Int):=(sY lv (level+1)).set level ((sY lv (level+1)).getD level []++[i])
abbrev jQ:=List Int×List (List Int)
def l6(go:Int->K->K->jQ->Option (Nat×jQ))(low:K)(p:c8):List Int->Nat->Option Nat->jQ->Option (Nat×jQ)
 | [],_,deep,s=>deep.map fun d=>(d,s)
 | c::cs,k,deep,s=>match go c (iP low p k) (iA p k) s with
  | none=>none
  | some (d,s')=>if deep=none\/deep=some d then l6 go low p cs (k+1) (some d) s' else none
def jI(t:aF):Nat->Int->K->K->Nat->jQ->Option (Nat×jQ)
 | 0,_,_,_,_,_=>none
 | f+1,i,low,high,level,s =>
  if i∈s.1 then none
  else if (t.pg i).high≠high\/(∃k,(t.pg i).keys.head?=some k/\bG k low) then none
  else if (t.pg i).leaf=true then some (level,(s.1++[i],kV s.2 level i))
  else l6 (fun c lo hi s=>jI t f c lo hi (level+1) s) low (t.pg i) (t.pg i).kids 0 none (s.1++[i],kV s.2 level i)
def vm(t:aF):Prop:=∀p∈t.ag,eN p t.ag.length
open Classical in
noncomputable def gQ(t:aF):Int :=
 if t.ag.length<1\/t.ag.length>4000\/t.root<0\/t.root>=t.ag.length then 11
 else if ¬vm t then 11
 else match jI t (t.ag.length+1) t.root [] [] 0 ([],[]) with
  | none=>11
  | some (_,s)=>if s.1.length≠t.ag.length then 11 else if ∀l∈s.2,fk t l (-1) then 0 else 11
theorem SS(lv:List (List Int))(n:Nat):(sY lv n).length=max lv.length n:=by unfold sY;rw[length_append,length_replicate];omega
theorem KE(lv:List (List Int))(n m:Nat):(sY lv n).getD m []=lv.getD m []:=by
 unfold sY;rw[getD_eq_getElem?_getD,getD_eq_getElem?_getD];rcases Nat.lt_or_ge m lv.length with h|h
 ·rw[getElem?_append_left h]
 rw[getElem?_append_right h,getElem?_eq_none h,getElem?_replicate];split<;>rfl
theorem JO(lv:List (List Int))(level:Nat)(i:Int):(kV lv level i).length=max lv.length (level+1):=by unfold kV;rw[length_set,SS]
theorem FM(lv:List (List Int))(level:Nat)(i:Int)(m:Nat):(kV lv level i).getD m []=lv.getD m []++(if m=level then [i] else []):=by
 unfold kV;rw[getD_eq_getElem?_getD];by_cases e:m=level
 ·subst e;rw[getElem?_set_self (by rw[SS];omega),KE,if_pos rfl];rfl
 rw[getElem?_set_ne (fun h=>e h.symm),if_neg e,append_nil,<-getD_eq_getElem?_getD,KE]
def xI(t:aF)(h level:Nat)(i:Int)(m:Nat):List Int:=if level<=m/\m<=level+h then cH t (m-level) i else []
variable {t:aF}
theorem SU {h level:Nat} {low:K} {p:c8} (go:Int->K->K->jQ->Option (Nat×jQ))
  (O:∀(c:Int) (lo hi:K) (s:jQ),dX t h c lo hi->(∀x∈ids t h c,x∉s.1)->(ids t h c).Nodup->∃lv,go c lo hi s=some (level+1+h,(s.1++ids t h c,lv))/\lv.length=max s.2.length (level+1+h+1)/\∀m,lv.getD m []=s.2.getD m []++xI t h (level+1) c m) :
  ∀(cs:List Int) (k:Nat) (deep:Option Nat) (s:jQ),(∀j (hj:j<cs.length),dX t h cs[j] (iP low p (k+j)) (iA p (k+j)))->(cs.flatMap (ids t h)).Nodup->(∀x∈cs.flatMap (ids t h),x∉s.1)->(deep=none\/deep=some (level+1+h))->(cs≠[]\/deep≠none) ->
   ∃lv,l6 go low p cs k deep s=some (level+1+h,(s.1++cs.flatMap (ids t h),lv))/\lv.length=(if cs=[] then s.2.length else max s.2.length (level+1+h+1))/\∀m,lv.getD m []=s.2.getD m []++(if level+1<=m/\m<=level+1+h then cs.flatMap (cH t (m-(level+1))) else [])
 | [],k,deep,s,_,_,_,hd,hne=>by
  rcases hd with rfl|rfl
  ·rcases hne with h|h<;>exact absurd rfl h
  exact⟨s.2,by simp[l6],by simp,fun m=>by split<;>simp⟩
 | c::cs,k,deep,s,aW,hnd,E,hd,_=>by
  rw[flatMap_cons] at hnd E;rw[nodup_append] at hnd;obtain⟨n1,n2,n3⟩:=hnd;obtain⟨I,e1,l1,m1⟩:=O c (iP low p k) (iA p k) s (aW 0 bq) (fun x hx=>E x (mem_append_left _ hx)) n1;obtain⟨U,e2,l2,m2⟩:=SU go O cs (k+1) (some (level+1+h)) (s.1++ids t h c,I) (fun j hj=>by
   have:=aW (j+1) (by simpa using hj);simp only[getElem_cons_succ] at this;rw[show k+1+j=k+(j+1) by omega];exact this) n2 (fun x hx hm=>by
    rcases mem_append.1 hm with hm|hm
    ·exact E x (mem_append_right _ hx) hm
    exact n3 x hm x hx rfl) (.inr rfl) (.inr bq)
  refine⟨U,?_,?_,fun m=>?_⟩
  ·rw[l6,e1];show(if deep=none\/deep=some (level+1+h) then _ else _)=_;rw[if_pos hd,e2,flatMap_cons,append_assoc]
  ·rw[l2];show(if cs=[] then I.length else max I.length _)=_;rw[l1,if_neg (cons_ne_nil c cs)];split<;>omega
  rw[m2,m1];unfold xI;split
  ·rw[flatMap_cons,append_assoc]
  simp
theorem Vv(hp:∀p∈t.ag,eN p t.ag.length):∀{h f:Nat} {i:Int} {low high:K} {level:Nat} {s:jQ},h<f->dX t h i low high->(∀x∈ids t h i,x∉s.1)->(ids t h i).Nodup ->
  ∃lv,jI t f i low high level s=some (level+h,(s.1++ids t h i,lv))/\lv.length=max s.2.length (level+h+1)/\∀m,lv.getD m []=s.2.getD m []++xI t h level i m
 | h,0,_,_,_,_,_,hf,_,_,_=>by omega
 | 0,f+1,i,low,high,level,s,hf,ok,E,hnd=>by
  obtain⟨q1,q2,O,U⟩:=ok;refine⟨kV s.2 level i,?_,JO _ _ _,fun m=>?_⟩
  ·rw[jI,if_neg (E i (tV 0 i)),if_neg,if_pos q2];rfl;rintro(h|⟨k,hk,aa⟩)
   ·exact h O
   exact U k (mem_of_mem_head? hk) aa
  rw[FM];unfold xI;congr 1;by_cases e:m=level
  ·subst e;rw[if_pos rfl,if_pos ⟨Nat.le_refl _,Nat.le_refl _⟩,Nat.sub_self];rfl
  rw[if_neg e,if_neg w4]
 | h+1,f+1,i,low,high,level,s,hf,ok,E,hnd=>by
  obtain⟨q1,q2,O,U,Z⟩:=ok;have po:=hp _ (jV q1);have I:(t.pg i).kids≠[]:=fun e=>by have:=(po.node q2).1;rw[e] at this;simp at this
  rw[ids,nodup_cons] at hnd;rw[ids] at E;obtain⟨lv,e,l,mm⟩:=SU (t:=t) (h:=h) (level:=level) (low:=low) (p:=t.pg i) (fun c lo hi s=>jI t f c lo hi (level+1) s)
   (fun c lo hi s ok hd hn=>Vv hp (h:=h) (f:=f) (level:=level+1) w4 ok hd hn) (t.pg i).kids 0 none (s.1++[i],kV s.2 level i) (fun j hj=>by rw[Nat.zero_add];exact Z j hj) hnd.2 (fun x hx hm=>by
    rcases mem_append.1 hm with hm|hm
    ·exact E x (mem_cons_of_mem _ hx) hm
    rw[mem_singleton] at hm;subst hm;exact hnd.1 hx) (.inl rfl) (.inl I)
  refine⟨lv,?_,?_,fun m=>?_⟩
  ·rw[jI,if_neg (E i mem_cons_self),if_neg,if_neg (by rw[q2];decide),e,ids]
   ·simp;omega
   rintro(h|⟨k,hk,aa⟩)
   ·exact h O
   exact U k (mem_of_mem_head? hk) aa
  ·rw[l,if_neg I];show max (kV s.2 level i).length _=_;rw[JO];omega
  rw[mm];show(kV s.2 level i).getD m []++_=_;rw[FM];unfold xI;rw[append_assoc];congr 1;by_cases e1:m=level
  ·subst e1;rw[if_pos rfl,if_neg w4,if_pos ⟨Nat.le_refl _,by omega⟩,Nat.sub_self];rfl
  rw[if_neg e1,nil_append];by_cases e2:level+1<=m/\m<=level+1+h
  ·rw[if_pos e2,if_pos w4];obtain⟨d,rfl⟩:∃d,m=level+1+d:=⟨m-(level+1),by omega⟩
   rw[show level+1+d-(level+1)=d by omega,show level+1+d-level=d+1 by omega,cH]
  rw[if_neg e2,if_neg w4]
open Classical in
theorem JP{h:Nat}(v:Valid t h):gQ t=0:=by
 have hr:=v.range;have E:=v.pos;have hm:=v.oo;unfold gQ;rw[if_neg w4,if_neg (by exact fun hn=>hn v.fM)];obtain⟨lv,e,l,I⟩:=Vv v.fM (f:=t.ag.length+1) (level:=0) (s:=([],[])) (by have:=v.high;omega) v.ok (fun x _ hx=>by cases hx) v.Au;rw[e];show(if ([]++ids t h t.root).length≠t.ag.length then _ else if ∀l∈lv,fk t l (-1) then (0:Int) else 11)=0;rw[if_neg (by rw[nil_append,v.all];simp),if_pos];intro x hx;obtain⟨m,tH,rfl⟩:=mem_iff_getElem.1 hx;have:=I m;rw[getD_eq_getElem?_getD,getElem?_eq_getElem tH] at this;have e2:lv[m]=xI t h 0 t.root m:=(by simpa using this)
 rw[e2];unfold xI;rw[l] at tH;rw[if_pos (by simp at tH;omega),Nat.sub_zero];exact v.pM m (by simp at tH;omega)

end Go.Proofs.YtbplamgacibdaaaGreatDoor.Tr
