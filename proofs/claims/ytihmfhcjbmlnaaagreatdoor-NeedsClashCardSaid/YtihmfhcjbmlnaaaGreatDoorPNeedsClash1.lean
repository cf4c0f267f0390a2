/-
  NeedsClash: walks and plain facts.
-/
import Derived.Test.YtihmfhcjbmlnaaaGreatDoorPNA9
set_option linter.unusedVariables false
set_option linter.unusedSimpArgs false
set_option maxRecDepth 100000
set_option maxHeartbeats 4000000
namespace Go.Proofs.YtihmfhcjbmlnaaaGreatDoor
open List
namespace Vl
open Go.Proofs.Tryz
open Go.RowKit V Pk
theorem Vl.ext'{x y:Vl}(h1:x.k=y.k)(h2:x.n=y.n)(h3:x.s=y.s):x=y:=by cases x;cases y;simp only at h1 h2 h3;subst h1 h2 h3;rfl
variable {G:List (Nat×List Value)}
end Vl
namespace Cd
open Go.Proofs.Tryz
open Go.RowKit V Pk Vl
section
def eC(l:List UInt8):Nat:=l.foldl (fun a c=>a*256+c.toNat) 0
theorem sJ(l:List UInt8)(c:UInt8):eC (l++[c])=eC l*256+c.toNat:=by unfold eC;rw[foldl_append];rfl
theorem qo:∀(n:Nat) (l:List UInt8),l.length=n->eC l<256 ^ n
 | 0,l,h=>by rw[eq_nil_of_length_eq_zero h];decide
 | n+1,l,h=>by
  have hne:l≠[]:=(by intro e;subst e;simp at h)
  rw[<-dropLast_concat_getLast hne,sJ];have h1:=qo n l.dropLast JK;have h2:(l.getLast hne).toNat<256:=(l.getLast hne).toNat_lt;rw[Nat.pow_succ];omega
variable {G:List (Nat×List Value)}
end
variable {v:Vl}
theorem sI:∀(b a:List UInt8),eC (a++b)=eC a*256 ^ b.length+eC b
 | [],a=>by simp[eC]
 | c::b,a=>by
  have h1:=sI b (a++[c]);have h2:=sI b [c];rw[append_assoc,singleton_append,sJ] at h1;have h3:eC (c::b)=c.toNat*256 ^ b.length+eC b:=by
   rw[singleton_append] at h2;rw[h2];have:eC [c]=c.toNat:=(by simp[eC])
   rw[this]
  rw[h1,h3,length_cons,Nat.pow_succ,Nat.add_mul,Nat.mul_assoc,Nat.mul_comm 256];omega
theorem DM{u:Nat}(h:u<18446744073709551616):eC (kj u)=u:=by
 exact z22
theorem Bp{s:ByteArray}(h:s.size=0):s=⟨#[]⟩:=zm (eq_nil_of_length_eq_zero (by rw[lA,h]))
theorem zk(h:bW v=0)(hk:v.k=0):v=⟨0,0,⟨#[]⟩⟩:=by
 unfold bW at h;rw[if_pos hk] at h;split at h
 ·cases h
 rename_i hn;exact JV
theorem D5(h:bW v=0)(hk:v.k=1):v.s=⟨#[]⟩:=by
 exact KT
theorem D6(h:bW v=0)(hk:v.k=2):v.s=⟨#[]⟩:=by
 exact KP
theorem D4(h:bW v=0)(hk:v.k=3):v.n=0:=by
 exact KR
open Go.Lib (compareBytes)
theorem IV{a b:UInt8}(h:a≠b):a.toNat≠b.toNat:=fun e=>h (UInt8.toNat_inj.1 e)
theorem lD{a b:UInt8}(x y:List UInt8)(h:a.toNat<b.toNat):compareBytes (a::x) (b::y) = -1:=by rw[qk,if_pos (oK.2 h)]
theorem lR(a:UInt8)(x y:List UInt8):compareBytes (a::x) (a::y)=compareBytes x y:=by
 exact JT
theorem ua:∀(p x y:List UInt8),compareBytes (p++x) (p++y)=compareBytes x y
 | [],_,_=>rfl
 | a::p,x,y=>by rw[cons_append,cons_append,lR,ua p x y]
theorem xy:∀(x y:List UInt8),compareBytes x y = -1\/compareBytes x y=0/\x=y\/compareBytes x y=1
 | [],[]=>.inr (.inl ⟨rfl,rfl⟩)
 | [],_::_=>.inl rfl
 | _::_,[]=>.inr (.inr rfl)
 | a::x,b::y=>by
  rw[qk];rcases Nat.lt_trichotomy a.toNat b.toNat with h|h|h
  ·exact .inl (if_pos (oK.2 h))
  ·have e:a=b:=UInt8.toNat_inj.1 h;subst e;rw[if_neg nh,if_neg nh];rcases xy x y with h|⟨h,e⟩|h
   ·exact .inl h
   ·exact .inr (.inl ⟨h,by rw[e]⟩)
   exact .inr (.inr h)
  exact .inr (.inr JI)
theorem tT(c:UInt8)(b:List UInt8):eC (c::b)=c.toNat*256 ^ b.length+eC b:=by
 exact KQ
theorem xQ:∀(l k:List UInt8) (x y:List UInt8),l.length=k.length->eC l<eC k->compareBytes (l++x) (k++y) = -1
 | [],[],_,_,_,h=>absurd h (Nat.lt_irrefl _)
 | [],_::_,_,_,h,_=>by simp at h
 | _::_,[],_,_,h,_=>by simp at h
 | a::l,b::k,x,y,hl,h=>by
  simp only[length_cons,Nat.add_right_cancel_iff] at hl;rw[tT,tT,hl] at h;have h1:=qo _ l hl;have h2:=qo _ k rfl;rw[cons_append,cons_append];rcases Nat.lt_trichotomy a.toNat b.toNat with e|e|e
  ·exact lD _ _ e
  ·have e':a=b:=UInt8.toNat_inj.1 e;subst e';rw[lR];exact xQ l k x y hl w4
  exfalso;have:(b.toNat+1)*256 ^ k.length<=a.toNat*256 ^ k.length:=Nat.mul_le_mul_right _ e;rw[Nat.succ_mul] at this;omega
theorem lZ(c:UInt8)(s:List UInt8):jx (c::s)=(if c=0 then [0,255] else [c])++jx s:=by unfold jx;rw[flatMap_cons]
theorem uh{c:UInt8}(h:¬c=0):0<c.toNat:=by
 exact z131
theorem xL:∀(s t x y:List UInt8),compareBytes s t = -1->compareBytes (jx s++([0,0]++x)) (jx t++([0,0]++y)) = -1
 | [],[],_,_,h=>by exact absurd h w7
 | _::_,[],_,_,h=>by exact absurd (show(1:Int) = -1 from h) w7
 | [],d::t,x,y,_=>by
  rw[lZ];by_cases hd:d=0
  ·rw[if_pos hd];show compareBytes (0::0::x) (0::255::(jx t++([0,0]++y))) = -1;rw[lR];exact lD _ _ w7
  rw[if_neg hd];exact lD (a:=0) _ _ (uh hd)
 | c::s,d::t,x,y,h=>by
  rcases Nat.lt_trichotomy c.toNat d.toNat with e|e|e
  ·have hd:¬d=0:=fun hd=>by subst hd;have:(0:UInt8).toNat=0:=rfl;omega
   rw[lZ,lZ,if_neg hd];by_cases hc:c=0
   ·rw[if_pos hc];exact lD (a:=0) _ _ (uh hd)
   rw[if_neg hc];exact lD _ _ e
  ·have e':c=d:=UInt8.toNat_inj.1 e;subst e';rw[lR] at h;rw[lZ,lZ,append_assoc,append_assoc,ua];exact xL s t x y h
  rw[qk,if_neg nh,if_pos (oK.2 e)] at h;exact absurd h w7
theorem Er{w:Vl}(hv:bW v=0)(ov:v.Ok)(hw:bW w=0)(ow:w.Ok)(x y:List UInt8)(h:fh v w = -1):compareBytes (jO v++x) (jO w++y) = -1:=by
 exact z6
theorem Hf(v w:Vl):fh v w = -1\/fh v w=0\/fh v w=1:=by
 exact KG
theorem BO{w:Vl}(hv:bW v=0)(ov:v.Ok)(hw:bW w=0)(ow:w.Ok)(x y:List UInt8)(h:fh v w≠0):compareBytes (jO v++x) (jO w++y)=fh v w:=by
 exact KN
end Cd
namespace Pa
open Go.Proofs.Tryz
open Go.RowKit V Pk Vl Go.Proofs.YtihmfhcjbmlnaaaGreatDoor.Nm Pc
variable {G:List (Nat×List Value)}
theorem Og{s:aT}(h:bZ s=0):1<=s.kind/\s.kind<=9/\cZ s=0/\(qV s).length<=100:=by
 unfold bZ at h;split at h
 ·cases h
 split at h
 ·rename_i h2;exact absurd h h2
 split at h
 ·cases h
 rename_i h2 _;exact⟨by omega,by omega,by omega,by omega⟩
end Pa
namespace Ex
open Go.Proofs.Tryz
open Go.RowKit V Pk Vl Go.Proofs.YtihmfhcjbmlnaaaGreatDoor.Nm Pc
theorem PB:bE cx ⟨#[105,100]⟩=0:=by decide +kernel
end Ex
namespace Tr
open Go.Proofs.Tryz
open Go.Lib (compareBytes)
variable {t:aI} {h:Nat} {k:K}
theorem Hu{eL:K}:∀{l:List (K×Int)},l.Pairwise (fun x y=>bI x.1 y.1)->l.takeWhile (fun x=>decide (¬bI eL x.1))=l.filter fun x=>decide (¬bI eL x.1)
 | [],_=>rfl
 | x::l,h=>by
  obtain⟨h1,h2⟩:=pairwise_cons.1 h;rw[takeWhile_cons,filter_cons];by_cases hx:bI eL x.1
  ·rw[if_neg wD,if_neg wD];exact(filter_eq_nil_iff.2 fun y hy=>by simpa using l5 hx (h1 y hy)).symm
  rw[if_pos wD,if_pos wD,Hu h2]
end Tr
namespace Tw
open Go.Proofs.Tryz
open Go.RowKit V Tr Pk
open Go.Lib (compareBytes)
variable {G:List (Nat×List Value)}
theorem Uq{t:aI}{n:Nat}(g:jg t n)(f eL:K)(h0:0<eL.length):jF t f eL=(er t).filter fun x=>decide (¬bI x.1 f)&&decide (¬bI eL x.1):=by
 exact z105
end Tw
namespace Ba
open Go.Proofs.Tryz
open Go.RowKit V Pk Tr Vl Go.Proofs.YtihmfhcjbmlnaaaGreatDoor.Nm Pc Cd Ex Tw
open Pa (aT aY)
variable {G:List (Nat×List Value)} {m:Int}
noncomputable def oM(l:List aA)(nm:ByteArray):List (List Vl)×Int:=if aC l nm<0 then ([],8) else ((er (l.getD (aC l nm).toNat ⟨nm,[],[],nc⟩).ix).map fun x=>rowAt (l.getD (aC l nm).toNat ⟨nm,[],[],nc⟩) x.2,0)
theorem LW:(Tryz.prog.info? 30).map (fun i=>(i.zero,i.size,i.bytes))=some (some (.slice none 0 0),1,24):=by kernel_rfl
theorem Em(hm:(3,marksC)∈G)(hw:(1,wordsC)∈G)(ht:(0,typesC)∈G)(hG:(2,[Value.int .i64 m])∈G)(l:List aA){n:Nat}(g:pY l n)(nm:ByteArray):VP Tryz.prog G 13 [.agg [aj 5 cr (l)],aG nm] (.dF [.list 1 ((oM l nm).1.flatMap eX) (oM l nm).1.length,ae (oM l nm).2]):=by
 exact z4
end Ba
namespace Ba
open Go.Proofs.Tryz
open Go.RowKit V Pk Tr Vl Go.Proofs.YtihmfhcjbmlnaaaGreatDoor.Nm Pc Cd Ex Tw
open Pa (aT aY dJ bZ cY cZ dA dO dr bN bJ Ph)
section
variable {G:List (Nat×List Value)} {m:Int}
def G4(x:ByteArray)(r:List Vl):aT:={bN with kind:=3,table:=x,row:=r}
theorem Ea{v:Vl}(h:bW v=0)(hk:v.k=2):fS [v]=(eU [v],0):=by
 exact KJ
theorem Ht{t:aA}{n:Nat}(g:dN t n){i:Int}(h:gw t i):∃(v:Vl) (r:List Vl),rowAt t i=v::r/\r.length=3/\v.k=2/\v.s.size=0/\v.Ok/\bW v=0/\de (rowAt t i)=eU [v]:=by
 obtain⟨h4,bf⟩:=gw.ok g h;obtain⟨h0,h1,h2⟩:=h;have hf:=(g.row _ h1 h2).1;rw[<-ju h1] at hf;match hr:rowAt t i,h4 with
 | v::r,h4 =>
  rw[hr] at hf bf;obtain⟨hv,hc⟩:=bf v mem_cons_self;have hk:v.k=2:=by
   unfold Pc.dV at hf;rw[if_neg wA,if_neg vg] at hf;unfold cx Pc.pH at hf;split at hf
   ·rename_i h1;exact absurd hf h1
   rename_i h1;have h1:=Decidable.not_not.1 h1;unfold Pc.mh at h1;rw[if_neg (by rw[hc];decide)] at h1;split at h1
   ·cases h1
   rename_i h3;exact Decidable.not_not.1 fun e=>h3 ⟨e,.inl rfl⟩
  refine⟨v,r,rfl,by simpa using h4,hk,?_,hv,hc,?_⟩
  ·unfold bW at hc;rw[if_neg w4,if_neg w4,if_pos hk] at hc;split at hc
   ·cases hc
   rename_i h3;exact Decidable.not_not.1 h3
  exact JU
noncomputable def iz(t:aA):List (List Vl):=(er t.ix).map fun x=>rowAt t x.2
theorem Ez{l:List aA}{nm:ByteArray}{i:Nat}(h:aC l nm=(i:Int))(hi:i<l.length):oM l nm=(iz l[i],0):=by
 exact z117
theorem DY{t:aA}{n:Nat}(g:dN t n):(iz t).length<=16000:=by
 exact Qb
def iR(w:List aQ):aT:={bN with kind:=4,table:=⟨#[116]⟩,ah:=w}
theorem D0(x:ByteArray)(w:List aQ):VP Tryz.prog G 15 [aG x,aj 5 cO w] (.agg [ae 4,aG x,aJ,aJ,aJ,aW false,aj 5 cO w,dj,aW false,ae (-1),dj,aJ]):=by
 exact z157
end
theorem IS{s:aT}(hg:cY s)(hk:s.kind=4)(hn:s.names.length<=6)(hw:s.ah.length<=15):bZ s=0:=by
 exact Rw
theorem yY(w:List aQ)(hw:Pa.tL w):cY (iR w):=(Pa.DB (t:=⟨#[116]⟩) zR (N:=[]) ⟨Nat.zero_le _,fun _ h=>by cases h⟩ (c:=false) (fun h=>by cases h) (o:=⟨#[]⟩) (.inl rfl) (d:=false) (fun _=>rfl) (m:=-1) ⟨by decide,by decide⟩).2 w hw (.inl (by show(4:Int)<=4;decide))
end Ba
namespace Ex
open Go.Proofs.Tryz
open Go.RowKit V Pk Vl Go.Proofs.YtihmfhcjbmlnaaaGreatDoor.Nm Pc Cd
open Go.Lib (compareBytes)
variable {h:Int} {ops:List aQ}
def mR:ByteArray:=⟨#[105,100]⟩
def iJ:aQ:=⟨2,aX,mR⟩
def iq(x:Int):aQ:=⟨1,dz x,⟨#[]⟩⟩
def bY(x:Int):List UInt8:=eU [dz x]
theorem Nj{x:Int}(hx:0<=x):jj (dz x)=0:=by unfold jj;rw[if_neg (by intro h;have:x = -9223372036854775808:=h.2;omega)];exact BZ x
theorem Ja(h0:0<=h):ga h iJ=0:=by unfold ga iJ;simp[H7,HD,mR,Pg,cn];omega
theorem zn{x:Int}(hx:0<=x)(h0:0<=h):ga h (iq x)=0:=by unfold ga iq;simp[Nj hx,cn];omega
theorem rB{o:aQ}{r:List aQ}(he:ga h o=0){h':Int}(E:h+(1-cn o.k)=h'):runs h (o::r)=runs h' r:=by rw[runs,if_pos he,E]
theorem Jb:lQ mR iJ=true:=by decide +kernel
theorem ak4(x:Int):lQ mR (iq x)=false:=rfl
theorem OT:gU iJ=false:=rfl
theorem IM(x:Int):gU (iq x)=true:=rfl
theorem JB{α:Type}{p:α->Bool}{a:α}{r:List α}(h:p a=true):dD p (a::r)=0:=by unfold dD;simp[findIdx?_cons,h]
theorem JC{α:Type}{p:α->Bool}{a b:α}{r:List α}(h:p a=false)(h':p b=true):dD p (a::b::r)=1:=by unfold dD;simp[findIdx?_cons,h,h']
theorem BL(x:Int):fS [dz x]=(bY x,0):=by
 exact KL
theorem pu(x:Int):(bY x).length=9:=by unfold bY eU jO qA;simp[dz,kj]
theorem LU{k:Int}(hr:runs 0 ops=some 1)(hl:ops.length<=40)(hp:ops.length≠0)(hk:rM cx ops=(k,0))(E:k=1\/k=0):eG cx ops=(gI mR ops.length ops ([],[]),0):=by
 exact z76
theorem IN(a b:Int):gk cx iJ a b=(2,0):=by unfold gk;rw[if_neg w7,if_pos (by rfl)];unfold u4;rw[show iJ.nm=⟨#[105,100]⟩ from rfl,PB];rfl
theorem Ij(x a b:Int):gk cx (iq x) a b=(2,0):=by unfold gk;rw[if_pos (by rfl)];rfl
theorem y8{k a b:Int}(h1:k≠1)(h2:k≠2)(h:okF k a b=true):gk cx (fI k) a b=(wG k,0):=by unfold gk;rw[if_neg (by exact h1),if_neg (by exact h2),if_pos (by exact h)];rfl
theorem qi{o:aQ}{r:List aQ}{st:List Int}{v:Int}(h:gk cx o (fT 0 o.k st) (fU 0 o.k st)=(v,0)){pR:List Int}(hs:st.take (st.length-(cn o.k).toNat)++[v]=pR):jH 0 (gk cx) (o::r) st=jH 0 (gk cx) r pR:=by
 rw[Ef (by rw[h]),h,hs]
theorem Oi(x:Int):compareBytes (bY x) []=1:=by
 have:=pu x;cases h:bY x with
 | nil=>rw[h] at this;cases this
 | cons a r=>rfl
theorem ML(x kc:Int)(eq not:Bool):pC kc eq not (bY x) ([],[])=(bif eq||(kc==0)==not then bY x else [],bif eq||(kc==0)!=not then bY x else []):=by
 unfold pC pE sW;cases(eq||(kc==0)==not)<;>cases(eq||(kc==0)!=not)<;>simp[Oi]
theorem IP(x:Int){not:Bool}{kc lc:Int}{b:lY}(h3:ops.length=3)(hn:not=true->kx ops 2=7)(h67:kx ops 2=6\/kx ops 2=7)(vC:dD (lQ mR) (ops.take 2)=kc)(FX:dD gU (ops.take 2)=lc)(wR:0<=kc)(pM:0<=lc)(hx:(ops.getD lc.toNat (fI 0)).v=dz x):kY mR ops not b=pC kc (kx ops 2==6) not (bY x) b:=by
 exact aaD
end Ex
namespace Ba
open Go.Proofs.Tryz
open Go.RowKit V Pk Tr Vl Go.Proofs.YtihmfhcjbmlnaaaGreatDoor.Nm Pc Cd Ex Tw
open Pa (aT aY dJ bZ cY cZ dA dO dr bN bJ Ph)
open Go.Lib (compareBytes)
variable {t:aA} {n:Nat} {x:ByteArray} {a k c:Int}
def eu(r:List Vl):Int:=(r.getD 0 aX).n
theorem IT{v:Vl}(hk:v.k=2)(hs:v.s.size=0):v=dz v.n:=by
 exact JS
theorem qR(g:dN t n){x:K×Int}(hx:x∈er t.ix):x.1=bY (eu (rowAt t x.2))/\(rowAt t x.2).getD 0 aX=dz (eu (rowAt t x.2))/\(rowAt t x.2).length=4/\(dz (eu (rowAt t x.2))).Ok:=by
 exact KF
theorem uj{b:Int}(ha:(dz a).Ok)(hb:(dz b).Ok)(h:a<b):bI (bY a) (bY b):=by
 exact RC
theorem Ov{b:Int}(ha:(dz a).Ok)(hb:(dz b).Ok):bI (bY a) (bY b)↔a<b:=⟨fun h=>by
 rcases Int.lt_trichotomy a b with q|q|q
 ·exact q
 ·subst q;exact absurd h (jK _)
 exact absurd (l5 h (uj hb ha q)) (jK _),uj ha hb⟩
theorem Bo{α:Type}{p q:α->Bool}:∀{l:List α},(∀x∈l,p x=q x)->l.find? p=l.find? q
 | [],_=>rfl
 | a::l,h=>by rw[find?_cons,find?_cons,h a mem_cons_self,Bo fun x hx=>h x (mem_cons_of_mem _ hx)]
theorem Bn{α:Type}{p q:α->Bool}:∀{l:List α},(l.filter p).find? q=l.find? fun x=>p x&&q x
 | []=>rfl
 | a::l=>by cases hp:p a<;>simp[filter_cons,find?_cons,hp,Bn (l:=l)]
theorem Nq(g:dN t n)(hk:(dz k).Ok):sR t.ix (dG t.ix) (bY k)=(er t.ix).find? (fun x=>decide (k<eu (rowAt t x.2))):=by
 exact z49
def ie(nm:ByteArray)(k:Int)(l:List (List Vl)):ByteArray:=match l.find? (fun r=>decide (k<eu r)) with
 | some r=>dI nm (bY (eu r))
 | none=>eB nm
theorem D7(g:dN t n)(hk:(dz k).Ok)(m:Int):oN t (bY k) m=⟨ie t.nm k (iz t),m⟩:=by
 exact z53
def l7(l:List bq)(x:ByteArray):Int:=match l.find? (fun n=>n.th.toList==x.toList) with
 | some n=>n.m
 | none=>0
theorem VB{l:List bq}{i:Nat}(h:i<l.length)(h0:∀n∈l.take i,(n.th.toList==x.toList)=false)(hx:(l[i].th.toList==x.toList)=true):l7 l x=l[i].m:=by
 exact z99
theorem Us{l:List bq}(h0:∀n∈l,(n.th.toList==x.toList)=false):l7 l x=0:=by
 unfold l7;rw[HH h0]
theorem vQ(d:bq)(l:List bq)(x:ByteArray):l7 (d::l) x=if d.th=x then d.m else l7 l x:=by
 exact z109
theorem D2{m:Int}{x:ByteArray}:∀{l:List bq},(∀d∈l,d.m=m)->(∃d∈l,d.th=x)->l7 l x=m
 | [],_,⟨_,hd,_⟩=>by cases hd
 | d::l,h,⟨e,he,hx⟩=>by
  rw[vQ];by_cases q:d.th=x
  ·rw[if_pos q];exact h d mem_cons_self
  rw[if_neg q];rcases mem_cons.1 he with rfl|he
  ·exact absurd hx q
  exact D2 (fun d hd=>h d (mem_cons_of_mem _ hd)) ⟨e,he,hx⟩
theorem VA(nm:ByteArray)(k:K):(dI nm k).toList=107::(nm.toList++(58::k)):=by unfold dI;simp[ByteArray.toList_eq]
theorem Ns(nm:ByteArray):(tB nm).toList=116::nm.toList:=by unfold tB;simp[ByteArray.toList_eq]
theorem Nt(nm:ByteArray):(eB nm).toList=101::nm.toList:=by unfold eB;simp[ByteArray.toList_eq]
theorem MP:(⟨#[]⟩:ByteArray).toList=[]:=by rw[ByteArray.toList_eq]
theorem Jc(nm:ByteArray)(k:K):dI nm k≠tB nm/\dI nm k≠eB nm/\dI nm k≠⟨#[]⟩:=by
 exact aax
theorem aoh(nm:ByteArray):eB nm≠tB nm/\eB nm≠⟨#[]⟩:=by
 refine⟨fun h=>?_,fun h=>?_⟩<;>have h:=congrArg ByteArray.toList h<;>rw[Nt] at h
 ·rw[Ns,cons.injEq] at h;exact absurd h.1 w7
 rw[MP] at h;cases h
theorem ajw(nm:ByteArray)(k:Int)(l:List (List Vl)):ie nm k l≠tB nm/\ie nm k l≠⟨#[]⟩:=by
 unfold ie;split
 ·exact⟨(Jc _ _).1,(Jc _ _).2.2⟩
 exact aoh nm
theorem ajx(nm:ByteArray)(k:Int)(l:List (List Vl)):l7 [⟨⟨#[]⟩,1⟩,⟨tB nm,2⟩,⟨dI nm (bY k),5⟩,⟨ie nm k l,5⟩] (ie nm k l)=5:=by
 obtain⟨h1,h2⟩:=ajw nm k l;rw[vQ,if_neg (fun e=>h2 e.symm),vQ,if_neg (fun e=>h1 e.symm)];exact D2 (fun d hd=>by simp only[mem_cons,not_mem_nil,or_false] at hd;rcases hd with rfl|rfl<;>rfl) ⟨_,mem_cons_of_mem _ mem_cons_self,rfl⟩
theorem BI{r:List Vl}(h:r∈iz t):∃x∈er t.ix,rowAt t x.2=r:=mem_map.1 h
theorem Nk(g:dN t n)(ha:(dz a).Ok)(hc:(dz c).Ok):jF t.ix (bY a) (bY c)=(er t.ix).filter fun x=>decide (a<=eu (rowAt t x.2))&&decide (eu (rowAt t x.2)<=c):=by
 exact z75
theorem Il(g:dN t n)(hc:(dz c).Ok)(lo:K)(m:Int):jf t lo (bY c) m=(jF t.ix lo (bY c)).map (fun x=>(⟨dI t.nm x.1,m⟩:bq))++[⟨ie t.nm c (iz t),m⟩]:=by
 unfold jf;rw[if_pos EV,D7 g hc]
theorem ajy(g:dN t n)(ha:(dz a).Ok)(hc:(dz c).Ok)(h1:a<=k)(h2:k<=c)(m:Int):∃d∈jf t (bY a) (bY c) m,d.th=ie t.nm k (iz t):=by
 rw[Il g hc,Nk g ha hc];cases h:(iz t).find? (fun r=>decide (k<eu r)) with
 | none =>
  have hn:(iz t).find? (fun r=>decide (c<eu r))=none:=HH fun r hr=>by
   have:=find?_eq_none.1 h r hr;simp only[decide_eq_true_eq] at this;exact decide_eq_false w4
  exact aaO
 | some r =>
  have hp:=find?_some h;simp only[decide_eq_true_eq] at hp;obtain⟨x,hx,hr⟩:=BI (mem_of_find?_eq_some h);by_cases q:eu r<=c
  ·refine⟨⟨dI t.nm x.1,m⟩,mem_append_left _ (mem_map_of_mem (mem_filter.2 ⟨hx,?_⟩)),?_⟩
   ·rw[hr,Bool.and_eq_true];exact⟨decide_eq_true w4,decide_eq_true q⟩
   show dI t.nm x.1=_;unfold ie;rw[h,(qR g hx).1,hr]
  have hn:(iz t).find? (fun r=>decide (c<eu r))=some r:=by
   obtain⟨_,xs,ys,e,fb⟩:=find?_eq_some_iff_append.1 h;rw[e];refine HO (p:=fun r=>decide (c<eu r)) (decide_eq_true w4) fun y hy=>?_;have:=fb y hy;simp only[Bool.not_eq_true',decide_eq_false_iff_not] at this;exact decide_eq_false w4
  exact aaO
theorem Aa{l:List aA}(h:l.map aA.nm=bJ)(h0:0<l.length):l[0].nm=⟨#[116]⟩:=by
 exact z119
end Ba
namespace Ba
open Go.Proofs.Tryz
open Go.RowKit V Pk Tr Vl Go.Proofs.YtihmfhcjbmlnaaaGreatDoor.Nm Pc Cd Ex Tw
open Pa (aT aY dJ bZ cY cZ dA dO dr bN bJ Ph)
variable {G:List (Nat×List Value)} {m:Int}
variable {k x y:Int} {l:List aA} {a c:Nat}
theorem sY:tB ⟨#[116]⟩=⟨#[116,116]⟩:=by decide +kernel
theorem tU(h0:0<=k)(h1:k<14):(dz k).Ok:=ok_int ⟨by omega,by omega⟩
theorem DZ{t:aA}{n:Nat}(g:dN t n):∀r∈iz t,r.length=4/\(dz (eu r)).Ok:=fun r hr=>by
 obtain⟨x,hx,rfl⟩:=BI hr;obtain⟨_,_,h3,h4⟩:=qR g hx;exact⟨h3,h4⟩
def p8(k:Int):aT:=G4 ⟨#[116]⟩ [dz k,aX,aX,aX]
theorem Ni:∀k:Nat,k<14->bZ (G4 ⟨#[116]⟩ [dz (k:Int),aX,aX,aX])=0/\Pc.dV cx [dz (k:Int),aX,aX,aX]=0:=by decide +kernel
theorem Ip(h0:0<=k)(h1:k<14):bZ (p8 k)=0/\Pc.dV cx [dz k,aX,aX,aX]=0:=by
 have:=Ni k.toNat w4;rw[Int.toNat_of_nonneg h0] at this;exact this
theorem Oh(h0:0<=k)(h1:k<14):uG (p8 k) :=
 B9 ⟨⟨Nat.zero_le _,by show 4<=6;decide,Nat.zero_le _,Nat.zero_le _,Nat.zero_le _⟩,by show(⟨#[116]⟩:ByteArray).size<=maxLen;decide,(fun _ h=>by cases h),(fun _ h=>by cases h),Nat.zero_le _,Nat.zero_le _,fun v hv=>by
  have hv:v∈[dz k,aX,aX,aX]:=hv;simp only[mem_cons,not_mem_nil,or_false] at hv;rcases hv with rfl|rfl|rfl|rfl
  ·exact⟨by show _<=k;omega,by show k<=_;omega⟩
  ·exact⟨by decide,by decide⟩
  ·exact⟨by decide,by decide⟩
  exact⟨by decide,by decide⟩,(fun _ h=>by cases h),(fun _ h=>by cases h)⟩ (by show(1:Int)<=3;decide) (by show(3:Int)<=6;decide) (Pa.Og (Ip h0 h1).1).2.2.1
theorem MK(gn:mZ l a c)(h:l.map aA.nm=bJ)(h0:0<l.length)(k0:0<=k)(k1:k<14):gE l (p8 k)=([⟨⟨#[]⟩,1⟩,⟨⟨#[116,116]⟩,2⟩,⟨dI ⟨#[116]⟩ (bY k),5⟩,⟨ie ⟨#[116]⟩ k (iz l[0]),5⟩],0):=by
 exact z54
theorem MM(gn:mZ l a c)(h:l.map aA.nm=bJ)(h0:0<l.length){w:List aQ}(hw:Pa.tL w)(hl:w.length<=15){lo hi:K}(hb:eG cx w=((lo,hi),0))(fA:0<lo.length):gE l (iR w)=(⟨⟨#[]⟩,1⟩::⟨⟨#[116,116]⟩,1⟩::jf l[0] lo hi 3,0):=by
 exact z38
theorem BN(l:List bq)(hl:l.length<=1000000)(x:ByteArray):VP Tryz.prog G 19 [aj 2 lp l,aG x] (ae (l7 l x)):=by
 exact aaU
def xn(x y:Int):List aQ:=[Ex.iJ,Ex.iq x,fI 7,fI 5,Ex.iq y,Ex.iJ,fI 7,fI 5,fI 3]
theorem ahL(hx:0<=x)(hy:0<=y):eG cx (xn x y)=((bY x,bY y),0):=by
 unfold xn;rw[LU (ops:=[Ex.iJ,Ex.iq x,fI 7,fI 5,Ex.iq y,Ex.iJ,fI 7,fI 5,fI 3]) (k:=1) (by rw[rB (h':=1) (Ja w7) (by rfl)];rw[rB (h':=2) (zn w4 w7) (by rfl)];rw[rB (h':=1) (xA w7 w7 w7) (by rfl)];rw[rB (h':=1) (xA w7 w7 w7) (by rfl)];rw[rB (h':=2) (zn w4 w7) (by rfl)];rw[rB (h':=3) (Ja w7) (by rfl)];rw[rB (h':=2) (xA w7 w7 w7) (by rfl)];rw[rB (h':=2) (xA w7 w7 w7) (by rfl)];rw[rB (h':=1) (xA w7 w7 w7) (by rfl)];rfl) bC bC (by unfold rM;rw[qi (v:=2) (pR:=[2]) (IN _ _) (by rfl)];rw[qi (v:=2) (pR:=[2,2]) (Ij _ _ _) (by rfl)];rw[qi (v:=1) (pR:=[1]) (y8 w7 w7 (by rfl)) (by rfl)];rw[qi (v:=1) (pR:=[1]) (y8 w7 w7 (by rfl)) (by rfl)];rw[qi (v:=2) (pR:=[1,2]) (Ij _ _ _) (by rfl)];rw[qi (v:=2) (pR:=[1,2,2]) (IN _ _) (by rfl)];rw[qi (v:=1) (pR:=[1,1]) (y8 w7 w7 (by rfl)) (by rfl)];rw[qi (v:=1) (pR:=[1,1]) (y8 w7 w7 (by rfl)) (by rfl)];rw[qi (v:=1) (pR:=[1]) (y8 w7 w7 (by rfl)) (by rfl)];rfl) (.inl rfl)]
 have e1:∀b,kY mR [Ex.iJ,Ex.iq x,fI 7] true b=pC 0 (kx [Ex.iJ,Ex.iq x,fI 7] 2==6) true (bY x) b:=fun b=>Ex.IP x (ops:=[Ex.iJ,Ex.iq x,fI 7]) (not:=true) (kc:=0) (lc:=1) rfl (fun _=>rfl) (.inr rfl) (Ex.JB Ex.Jb) (Ex.JC Ex.OT (Ex.IM _)) w7 w7 rfl;have e2:∀b,kY mR [Ex.iq y,Ex.iJ,fI 7] true b=pC 1 (kx [Ex.iq y,Ex.iJ,fI 7] 2==6) true (bY y) b:=fun b=>Ex.IP y (ops:=[Ex.iq y,Ex.iJ,fI 7]) (not:=true) (kc:=1) (lc:=0) rfl (fun _=>rfl) (.inr rfl) (Ex.JC (Ex.ak4 _) Ex.Jb) (Ex.JB (Ex.IM _)) w7 w7 rfl;rw[show gI mR [Ex.iJ,Ex.iq x,fI 7,fI 5,Ex.iq y,Ex.iJ,fI 7,fI 5,fI 3].length [Ex.iJ,Ex.iq x,fI 7,fI 5,Ex.iq y,Ex.iJ,fI 7,fI 5,fI 3] ([],[])=kY mR [Ex.iq y,Ex.iJ,fI 7] true (kY mR [Ex.iJ,Ex.iq x,fI 7] true ([],[])) by kernel_rfl];rw[e1,e2,ML];rfl
theorem amw:∀x:Nat,x<14->∀y:Nat,y<14->Pa.oL (xn (x:Int) (y:Int))=0:=by decide +kernel
theorem ZQ(h0:0<=x)(h1:x<14)(g0:0<=y)(g1:y<14):Pa.tL (xn x y):=⟨by show 9<=40;decide,by have:=amw x.toNat w4 y.toNat w4;rwa [Int.toNat_of_nonneg h0,Int.toNat_of_nonneg g0] at this,fun o ho=>by
 unfold xn at ho;simp only[mem_cons,not_mem_nil,or_false] at ho;have E:∀z:Int,0<=z->z<14->(iq z).nm.size<=maxLen/\-9223372036854775808<=(iq z).v.n/\(iq z).v.n<=9223372036854775807:=fun z I z1=>⟨Nat.zero_le _,by show _<=z;omega,by show z<=_;omega⟩
 rcases ho with rfl|rfl|rfl|rfl|rfl|rfl|rfl|rfl|rfl<;>first|exact E _ h0 h1|exact E _ g0 g1|exact⟨by decide,by decide,by decide⟩⟩
theorem Nl{α:Type}{p:α->Bool}{l:List α}{i:Nat}(h:i<l.length):(l.take (i+1)).any p=((l.take i).any p||p l[i]):=by
 rw[take_succ_eq_append_getElem h,any_append];simp
def EA(ws:List bq)(d:bq):Bool:=(l7 ws d.th==5)&&(d.m==3)
theorem ahM(gn:mZ l a c)(h:l.map aA.nm=bJ)(h0:0<l.length)(x0:0<=x)(U:x<14)(O:0<=y)(y1:y<14)(k1:x<=k)(k2:k<=y){L:List bq}(hL:⟨⟨#[]⟩,1⟩::⟨⟨#[116,116]⟩,1⟩::jf l[0] (bY x) (bY y) 3=L):L.any (EA [⟨⟨#[]⟩,1⟩,⟨⟨#[116,116]⟩,2⟩,⟨dI ⟨#[116]⟩ (bY k),5⟩,⟨ie ⟨#[116]⟩ k (iz l[0]),5⟩])=true:=by
 have g:=gn.g.tb _ (getElem_mem h0);obtain⟨d,hd,jo⟩:=ajy g (tU x0 U) (tU O y1) k1 k2 3;rw[Aa h h0] at jo;have I:d.m=3:=by
  rw[Il g (tU O y1)] at hd;rcases mem_append.1 hd with hd|hd
  ·obtain⟨z,_,rfl⟩:=mem_map.1 hd;rfl
  rw[mem_singleton] at hd;rw[hd]
 refine any_eq_true.2 ⟨d,by rw[<-hL];exact mem_cons_of_mem _ (mem_cons_of_mem _ hd),?_⟩;unfold EA;have E:=ajx ⟨#[116]⟩ k (iz l[0]);rw[sY] at E;rw[jo,E,I];rfl
theorem Zk(x:Int):VP Tryz.prog G 20 [ae x] (.agg (cO (iq x))):=by
 refine bA func20 rfl ntmps20 aO fun X0 w0 bz=>?_;refine cq ?_;refine cD (ds:=[_,_,_,_,_]) au rfl rfl zeroValue38 rfl (fun b2=>?_);refine ap 6 [0,2] ?_;refine az 3 ?_;refine aN 0 [_,_,_,_,_] sizeOf38 ?_;refine ap 6 [2] ?_;exact z46
theorem Du : ∀ w, ((#[{ name := "Kind", type := 3, offset := 0, embedded := false, tag := "", pkgPath := "", byteOffset := 0 }, { name := "Value", type := 36, offset := 1, embedded := false, tag := "", pkgPath := "", byteOffset := 8 }, { name := "Name", type := 9, offset := 4, embedded := false, tag := "", pkgPath := "", byteOffset := 40 }] : Array Field).mapM fun f => do pure (f.offset, ← sizeOf f.type) : Sem (Array (Nat × Nat))).run Tryz.prog w = .ok #[(0, 1), (1, 3), (4, 1)] w := fun w => by simp [sizeOf3, sizeOf36, sizeOf9]
theorem aeH(hm:(3,marksC)∈G)(hw:(1,wordsC)∈G)(ht:(0,typesC)∈G)(hG:(2,[Value.int .i64 m])∈G)(ps:List Ph)(gv:∀p∈ps,p.Ok)(fC:ps.length<=maxLen)(q:Int)(q1:-9223372036854775808<=q)(q2:q<=9223372036854775807)(r:Int)(r1:-9223372036854775808<=r)(r2:r<=9223372036854775807)(u:Int)(u1:-9223372036854775808<=u)(u2:u<=9223372036854775807):VP Tryz.prog G 9 [.list 14 (ps.flatMap Ph.cs) ps.length,ae q,ae r,ae u] (aW true):=by
 refine bA func9 rfl ntmps9 aO fun X0 w0 bz=>?_;have dy:=ee;have xb:=iK q (show(1:Int)<=14 by decide);have xp:=jU G q 14 q1 q2 w7;generalize cN q 14=I at xb xp;obtain⟨x0,x1⟩:=xb;have yb:=iK r (show(1:Int)<=14 by decide);have yp:=jU G r 14 r1 r2 w7;generalize cN r 14=U at yb yp;obtain⟨y0,y1⟩:=yb;have kb:=iK u (show(1:Int)<=14 by decide);have kp:=jU G u 14 u1 u2 w7;generalize cN u 14=kk at kb kp;obtain⟨k0,k1⟩:=kb;refine ay [0,1,2,3] ?_;refine az 1 ?_;refine eH au rfl rfl rfl call10 (zq hm hw ht hG ps gv fC) ⟨ot,trivial⟩ (fj _) ?_;rintro _ _ ⟨l,a,c,rfl,rfl,gn,Bf,E⟩;refine cD (ds:=[_]) au rfl rfl zeroValue25 rfl (fun b9=>?_);refine aN 0 [_] sizeOf25 ?_;refine ap 118 [1,2,3,9] ?_;refine cL ?_;have hU:=At E;have O:0<l.length:=(by omega)
 have hg0:=gn.g.tb _ (getElem_mem O);have Bk:=Em hm hw ht hG l gn.g ⟨#[116]⟩;rw[Ez (i:=0) (Cs E) O] at Bk;dsimp only at Bk;have yV:=DY hg0;have A5:=DZ hg0;have dQ:=VC.lK (tX hm hw ht hG l gn.g (iR (xn I U)) (cY.st (yY _ (ZQ x0 x1 y0 y1)))) (args':=[.agg [aj 5 cr (l)],.agg [ae 4,aG ⟨#[116]⟩,aJ,aJ,aJ,aW false,.list 5 ((xn I U).flatMap cO) (xn I U).length,dj,aW false,ae (-1),dj,aJ]]) ⟨aH,kW ⟨aH,aH,bQ,bQ,bQ,aH,aH,aH,aH,aH,aH,bQ,trivial⟩,trivial⟩;rw[MM gn E O (ZQ x0 x1 y0 y1) (by show 9<=15;decide) (ahL x0 y0) EV] at dQ;have gZ:=VC.lK (tX hm hw ht hG l gn.g (p8 kk) (Oh k0 k1)) (args':=[.agg [aj 5 cr (l)],.agg [ae 3,aG ⟨#[116]⟩,aJ,.list 3 ([dz kk,aX,aX,aX].flatMap cV) 4,aJ,aW false,aJ,dj,aW false,ae (-1),dj,aJ]]) ⟨aH,kW ⟨aH,aH,bQ,aH,bQ,aH,bQ,aH,aH,aH,aH,bQ,trivial⟩,trivial⟩;rw[MK gn E O k0 k1] at gZ;dsimp only at dQ gZ;have yA:=fun (h1:I<=kk) (h2:kk<=U) (L:List bq)=>ahM gn E O x0 x1 y0 y1 h1 h2 (L:=L);have hsf:=DO hg0.ix (bY I) (bY U);have RP:(jf l[0] (bY I) (bY U) 3).length<=16001:=(by unfold jf;rw[length_append,length_map,length_singleton];omega)
 generalize iz l[0]=ir at gZ yA;generalize hL:(⟨⟨#[]⟩,1⟩:bq)::⟨⟨#[116,116]⟩,1⟩::jf l[0] (bY I) (bY U) 3=L at dQ;have sD:2<=L.length/\L.length<=20000:=(by rw[<-hL,length_cons,length_cons];omega)
 have yA:=fun h1 h2=>yA h1 h2 L hL;generalize hW:[(⟨⟨#[]⟩,1⟩:bq),⟨⟨#[116,116]⟩,2⟩,⟨dI ⟨#[116]⟩ (bY kk),5⟩,⟨ie ⟨#[116]⟩ kk ir,5⟩]=ws at gZ yA;have hWl:ws.length=4:=(by rw[<-hW];rfl)
 have f1:decide (((L.length:Nat):Int)<2)=false:=decide_eq_false w4;have Sg:=Zk (G:=G) I;have hly:=Zk (G:=G) U;unfold cO at Sg hly;refine fW [2,3,9,10] ?_;refine cA (xp) ?_;refine bB ?_;refine cW [3,9,10,11] (yp) ?_;refine cW [9,10,11,12] (kp) ?_;refine az 1 ?_;refine cD (ds:=[_,_,_,_,_]) au rfl rfl zeroValue38 rfl (fun nQ=>?_);refine aN 0 [_,_,_,_,_] sizeOf38 ?_;refine ap 118 [9,10,11,12,13] ?_;refine ay [9,10,11,12,13,14] ?_;refine cL ?_;refine iX 14 (aq _) ?_ (fun _ h=>h);refine cm 0 rfl (ez (mk:=Op.load 38) rfl ot w48) ?_;refine iD [1,2] ?_;refine cm 4 rfl (nZ (pl:=[(0,_)]) (ds:=[_,_,_,_,_]) rfl zeroValue38 runUnderlying38 Du ⟨rfl,bP,trivial⟩ rfl rfl) ?_;refine cm 5 rfl (nZ (pl:=[(0,_)]) (ds:=[_,_,_,_,_]) rfl zeroValue38 runUnderlying38 Du ⟨rfl,bP,trivial⟩ rfl rfl) ?_;refine iD [6,7] ?_;refine cm 9 rfl (ez (mk:=Op.load 38) rfl ot w48) ?_;refine cm 10 rfl (nZ (pl:=[(0,_)]) (ds:=[_,_,_,_,_]) rfl zeroValue38 runUnderlying38 Du ⟨rfl,bP,trivial⟩ rfl rfl) ?_;refine cm 11 rfl (nZ (pl:=[(0,_)]) (ds:=[_,_,_,_,_]) rfl zeroValue38 runUnderlying38 Du ⟨rfl,bP,trivial⟩ rfl rfl) ?_;refine cm 12 rfl (nZ (pl:=[(0,_)]) (ds:=[_,_,_,_,_]) rfl zeroValue38 runUnderlying38 Du ⟨rfl,bP,trivial⟩ rfl rfl) ?_;refine ew.later rfl ?_;refine bV (i:=3) aD ?_
 refine TO (f:=20) (args:=[_]) (all:=[_]) (Sf:=[]) rfl au rfl rfl ot call20 Sg rfl ⟨ot,trivial⟩ (fj _) (fun b hb=>by simp[aq,St.put] at hb |-;try simp[hb]) ?_;rintro _ _ ⟨rfl,rfl⟩;refine bV (i:=8) aD ?_;refine TO (f:=20) (args:=[_]) (all:=[_]) (Sf:=[]) rfl au rfl rfl ot call20 hly rfl ⟨ot,trivial⟩ (fj _) (fun b hb=>by simp[aq,St.put] at hb |-;try simp[hb]) ?_;rintro _ _ ⟨rfl,rfl⟩;refine bV (i:=13) aD ?_;refine oZ (cU 0 [_,_,_,_,_,_,_,_,_]) [.int .i64 0,.int .i64 0,.int .i64 0,.string ⟨#[]⟩,.string ⟨#[]⟩,.int .i64 0,.int .i64 0,.int .i64 0,.string ⟨#[]⟩,.string ⟨#[]⟩,.int .i64 0,.int .i64 0,.int .i64 0,.string ⟨#[]⟩,.string ⟨#[]⟩,.int .i64 0,.int .i64 0,.int .i64 0,.string ⟨#[]⟩,.string ⟨#[]⟩,.int .i64 0,.int .i64 0,.int .i64 0,.string ⟨#[]⟩,.string ⟨#[]⟩,.int .i64 0,.int .i64 0,.int .i64 0,.string ⟨#[]⟩,.string ⟨#[]⟩,.int .i64 0,.int .i64 0,.int .i64 0,.string ⟨#[]⟩,.string ⟨#[]⟩,.int .i64 0,.int .i64 0,.int .i64 0,.string ⟨#[]⟩,.string ⟨#[]⟩,.int .i64 0,.int .i64 0,.int .i64 0,.string ⟨#[]⟩,.string ⟨#[]⟩] [_,_,_,_,_,_,_,_,_,_,_,_,_,_,_,_,_,_,_,_,_,_,_,_,_,_,_,_,_,_,_,_,_,_,_,_,_,_,_,_,_,_,_,_,_] zeroValue38 runUnderlying32 sizeOf38 (fun b45=>?_);refine o8 0 45 5 9 ?_;refine gd ?_;refine bL [9,10,11,12,15] ?_;refine cJ [9,10,11,12,16,17] ?_;refine cA (D0 ⟨#[116]⟩ (xn I U)) ?_;refine cA (dQ) ?_;refine bB ?_;refine cW [10,11,12,16,17,18,19] (gZ) ?_;refine ay [10,11,12,16,18,80] ?_
 refine bX ?_ ?_<;>intro aP bH
 ·exact absurd aP (by (simp[hWl] at aP))
 refine ay [10,11,12,16,18,20] ?_;refine ay [10,11,12,16,18,20,21] ?_;refine eZ [10,11,12,16,18] (fun aU j4 (aR:Nat×Bool) aE=>match aR with|(i,Z)=>(i<=L.length)/\(Z=(L.take i).any (EA ws))/\aE=(⟨118,(20,aW Z)::(21,ae (i:Nat))::aU,j4⟩:St)) (fun (aR:Nat×Bool)=>match aR with|(i,Z)=>L.length-i) (0,false) ⟨(Nat.zero_le _),rfl,rfl⟩ ?_;rintro⟨i,Z⟩ _ ⟨hi,fP,rfl⟩;refine ax [10,11,12,16,18,20,21,84] ?_ ?_<;>intro bg cM
 ·have aa:i<L.length:=(by omega)
  have nq:=BN (G:=G) ws w4 (L[i]'aa).th;refine cW [10,11,12,16,18,20,21,22] (nq) ?_;rcases Bool.eq_false_or_eq_true Z with hb|hb
  ·refine bM [10,11,12,16,18,20,21] ?_;refine bM [10,11,12,16,18,20,21] ?_;refine⟨((i+1),true),_,cR,aL,w4,(by rw[Nl aa,<-fP,hb];rfl),rfl⟩
  rcases Bool.eq_false_or_eq_true (l7 ws (L[i]'aa).th==5) with jT|jT
  ·refine bM [10,11,12,16,18,20,21] ?_;refine bM [10,11,12,16,18,20,21] ?_;refine⟨((i+1),((L[i]'aa).m==3)),_,cR,aL,w4,(by rw[Nl aa,<-fP,hb];unfold EA;rw[jT];rfl),rfl⟩
  refine bM [10,11,12,16,18,20,21] ?_;refine bM [10,11,12,16,18,20,21] ?_;refine⟨((i+1),false),_,cR,aL,w4,(by rw[Nl aa,<-fP,hb];unfold EA;rw[jT];rfl),rfl⟩
 have rW:i=L.length:=(by omega)
 rw[rW,take_of_length_le (Nat.le_refl _)] at fP;refine qm ?_;refine cL ?_;rcases Bool.eq_false_or_eq_true Z with hb|hb
 ·exact aaS
 by_cases hk:kk<I
 ·have g1:decide (kk<I)=true:=decide_eq_true hk;exact aaS
 have g1:decide (kk<I)=false:=decide_eq_false hk;have g2:decide (kk>U)=true:=decide_eq_true (Classical.byContradiction fun q=>by have:=yA w4 w4;rw[<-fP,hb] at this;cases this);refine bM [8] ?_;refine eD [] ?_;refine⟨?_,rfl⟩;first|rfl|exact congrArg (fun b=>D.v (.bool b)) g2
theorem walkNeedsClash(l:List Ph)(v:Value)(ok:(∀x∈l,x.Ok)/\l.length<=maxLen)(q:Int)(E:(Lit.int .i64 q).wf=true)(r:Int)(wr:(Lit.int .i64 r).wf=true)(u:Int)(I:(Lit.int .i64 u).wf=true)(w:World)(h1:MarksTab w)(h2:WordsTab w)(h3:TypesTab w){m:Int}(hm:Tab.lS w 2 [Value.int .i64 m])(hv:cG w (fun _=>False) (.list 14 (l.flatMap Ph.cs) l.length) v) :Calls Tryz.prog 9 #[v,.int .i64 q,.int .i64 r,.int .i64 u] w fun e w'=>e = .returned (.bool true)/\Below w.heap.size w w' :=
 (aeH (G:=tM m) Bg Bh Bi Bj l ok.1 ok.2 q (qw E).1 (qw E).2 r (qw wr).1 (qw wr).2 u (qw I).1 (qw I).2).Ae (As h1 h2 h3 hm) (vs:=[v,_,_,_]) (cX.cons hv (cX.vs w _ [_,_,_]))
end Ba
end Go.Proofs.YtihmfhcjbmlnaaaGreatDoor
