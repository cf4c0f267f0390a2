/-
  NeedsPoint: walks and plain facts.
-/
import Derived.Test.YtihmfhcjbmlnaaaGreatDoorPNA9
set_option linter.unusedVariables false
set_option linter.unusedSimpArgs false
set_option maxRecDepth 100000
set_option maxHeartbeats 4000000
namespace Go.Proofs.YtihmfhcjbmlnaaaGreatDoor
open List
namespace Vl
open Go.Proofs.Tryz
open Go.RowKit V Pk
theorem Vl.ext'{x y:Vl}(h1:x.k=y.k)(h2:x.n=y.n)(h3:x.s=y.s):x=y:=by cases x;cases y;simp only at h1 h2 h3;subst h1 h2 h3;rfl
variable {G:List (Nat×List Value)}
end Vl
namespace Cd
open Go.Proofs.Tryz
open Go.RowKit V Pk Vl
section
def eC(l:List UInt8):Nat:=l.foldl (fun a c=>a*256+c.toNat) 0
theorem sJ(l:List UInt8)(c:UInt8):eC (l++[c])=eC l*256+c.toNat:=by unfold eC;rw[foldl_append];rfl
theorem qo:∀(n:Nat) (l:List UInt8),l.length=n->eC l<256 ^ n
 | 0,l,h=>by rw[eq_nil_of_length_eq_zero h];decide
 | n+1,l,h=>by
  have hne:l≠[]:=(by intro e;subst e;simp at h)
  rw[<-dropLast_concat_getLast hne,sJ];have h1:=qo n l.dropLast JK;have h2:(l.getLast hne).toNat<256:=(l.getLast hne).toNat_lt;rw[Nat.pow_succ];omega
variable {G:List (Nat×List Value)}
end
variable {v:Vl}
theorem sI:∀(b a:List UInt8),eC (a++b)=eC a*256 ^ b.length+eC b
 | [],a=>by simp[eC]
 | c::b,a=>by
  have h1:=sI b (a++[c]);have h2:=sI b [c];rw[append_assoc,singleton_append,sJ] at h1;have h3:eC (c::b)=c.toNat*256 ^ b.length+eC b:=by
   rw[singleton_append] at h2;rw[h2];have:eC [c]=c.toNat:=(by simp[eC])
   rw[this]
  rw[h1,h3,length_cons,Nat.pow_succ,Nat.add_mul,Nat.mul_assoc,Nat.mul_comm 256];omega
theorem DM{u:Nat}(h:u<18446744073709551616):eC (kj u)=u:=by
 exact z22
theorem Bp{s:ByteArray}(h:s.size=0):s=⟨#[]⟩:=zm (eq_nil_of_length_eq_zero (by rw[lA,h]))
theorem zk(h:bW v=0)(hk:v.k=0):v=⟨0,0,⟨#[]⟩⟩:=by
 unfold bW at h;rw[if_pos hk] at h;split at h
 ·cases h
 rename_i hn;exact JV
theorem D5(h:bW v=0)(hk:v.k=1):v.s=⟨#[]⟩:=by
 exact KT
theorem D6(h:bW v=0)(hk:v.k=2):v.s=⟨#[]⟩:=by
 exact KP
theorem D4(h:bW v=0)(hk:v.k=3):v.n=0:=by
 exact KR
open Go.Lib (compareBytes)
theorem IV{a b:UInt8}(h:a≠b):a.toNat≠b.toNat:=fun e=>h (UInt8.toNat_inj.1 e)
theorem lD{a b:UInt8}(x y:List UInt8)(h:a.toNat<b.toNat):compareBytes (a::x) (b::y) = -1:=by rw[qk,if_pos (oK.2 h)]
theorem lR(a:UInt8)(x y:List UInt8):compareBytes (a::x) (a::y)=compareBytes x y:=by
 exact JT
theorem ua:∀(p x y:List UInt8),compareBytes (p++x) (p++y)=compareBytes x y
 | [],_,_=>rfl
 | a::p,x,y=>by rw[cons_append,cons_append,lR,ua p x y]
theorem xy:∀(x y:List UInt8),compareBytes x y = -1\/compareBytes x y=0/\x=y\/compareBytes x y=1
 | [],[]=>.inr (.inl ⟨rfl,rfl⟩)
 | [],_::_=>.inl rfl
 | _::_,[]=>.inr (.inr rfl)
 | a::x,b::y=>by
  rw[qk];rcases Nat.lt_trichotomy a.toNat b.toNat with h|h|h
  ·exact .inl (if_pos (oK.2 h))
  ·have e:a=b:=UInt8.toNat_inj.1 h;subst e;rw[if_neg nh,if_neg nh];rcases xy x y with h|⟨h,e⟩|h
   ·exact .inl h
   ·exact .inr (.inl ⟨h,by rw[e]⟩)
   exact .inr (.inr h)
  exact .inr (.inr JI)
theorem tT(c:UInt8)(b:List UInt8):eC (c::b)=c.toNat*256 ^ b.length+eC b:=by
 exact KQ
theorem xQ:∀(l k:List UInt8) (x y:List UInt8),l.length=k.length->eC l<eC k->compareBytes (l++x) (k++y) = -1
 | [],[],_,_,_,h=>absurd h (Nat.lt_irrefl _)
 | [],_::_,_,_,h,_=>by simp at h
 | _::_,[],_,_,h,_=>by simp at h
 | a::l,b::k,x,y,hl,h=>by
  simp only[length_cons,Nat.add_right_cancel_iff] at hl;rw[tT,tT,hl] at h;have h1:=qo _ l hl;have h2:=qo _ k rfl;rw[cons_append,cons_append];rcases Nat.lt_trichotomy a.toNat b.toNat with e|e|e
  ·exact lD _ _ e
  ·have e':a=b:=UInt8.toNat_inj.1 e;subst e';rw[lR];exact xQ l k x y hl w4
  exfalso;have:(b.toNat+1)*256 ^ k.length<=a.toNat*256 ^ k.length:=Nat.mul_le_mul_right _ e;rw[Nat.succ_mul] at this;omega
theorem lZ(c:UInt8)(s:List UInt8):jx (c::s)=(if c=0 then [0,255] else [c])++jx s:=by unfold jx;rw[flatMap_cons]
theorem uh{c:UInt8}(h:¬c=0):0<c.toNat:=by
 exact z131
theorem xL:∀(s t x y:List UInt8),compareBytes s t = -1->compareBytes (jx s++([0,0]++x)) (jx t++([0,0]++y)) = -1
 | [],[],_,_,h=>by exact absurd h w7
 | _::_,[],_,_,h=>by exact absurd (show(1:Int) = -1 from h) w7
 | [],d::t,x,y,_=>by
  rw[lZ];by_cases hd:d=0
  ·rw[if_pos hd];show compareBytes (0::0::x) (0::255::(jx t++([0,0]++y))) = -1;rw[lR];exact lD _ _ w7
  rw[if_neg hd];exact lD (a:=0) _ _ (uh hd)
 | c::s,d::t,x,y,h=>by
  rcases Nat.lt_trichotomy c.toNat d.toNat with e|e|e
  ·have hd:¬d=0:=fun hd=>by subst hd;have:(0:UInt8).toNat=0:=rfl;omega
   rw[lZ,lZ,if_neg hd];by_cases hc:c=0
   ·rw[if_pos hc];exact lD (a:=0) _ _ (uh hd)
   rw[if_neg hc];exact lD _ _ e
  ·have e':c=d:=UInt8.toNat_inj.1 e;subst e';rw[lR] at h;rw[lZ,lZ,append_assoc,append_assoc,ua];exact xL s t x y h
  rw[qk,if_neg nh,if_pos (oK.2 e)] at h;exact absurd h w7
theorem Er{w:Vl}(hv:bW v=0)(ov:v.Ok)(hw:bW w=0)(ow:w.Ok)(x y:List UInt8)(h:fh v w = -1):compareBytes (jO v++x) (jO w++y) = -1:=by
 exact z6
theorem Hf(v w:Vl):fh v w = -1\/fh v w=0\/fh v w=1:=by
 exact KG
theorem BO{w:Vl}(hv:bW v=0)(ov:v.Ok)(hw:bW w=0)(ow:w.Ok)(x y:List UInt8)(h:fh v w≠0):compareBytes (jO v++x) (jO w++y)=fh v w:=by
 exact KN
end Cd
namespace Ex
open Go.Proofs.Tryz
open Go.RowKit V Pk Vl Go.Proofs.YtihmfhcjbmlnaaaGreatDoor.Nm Pc
theorem PB:bE cx ⟨#[105,100]⟩=0:=by decide +kernel
end Ex
namespace Tr
open Go.Proofs.Tryz
open Go.Lib (compareBytes)
variable {t:aI} {h:Nat} {k:K}
theorem Hu{eL:K}:∀{l:List (K×Int)},l.Pairwise (fun x y=>bI x.1 y.1)->l.takeWhile (fun x=>decide (¬bI eL x.1))=l.filter fun x=>decide (¬bI eL x.1)
 | [],_=>rfl
 | x::l,h=>by
  obtain⟨h1,h2⟩:=pairwise_cons.1 h;rw[takeWhile_cons,filter_cons];by_cases hx:bI eL x.1
  ·rw[if_neg wD,if_neg wD];exact(filter_eq_nil_iff.2 fun y hy=>by simpa using l5 hx (h1 y hy)).symm
  rw[if_pos wD,if_pos wD,Hu h2]
end Tr
namespace Tw
open Go.Proofs.Tryz
open Go.RowKit V Tr Pk
open Go.Lib (compareBytes)
variable {G:List (Nat×List Value)}
theorem Uq{t:aI}{n:Nat}(g:jg t n)(f eL:K)(h0:0<eL.length):jF t f eL=(er t).filter fun x=>decide (¬bI x.1 f)&&decide (¬bI eL x.1):=by
 exact z105
end Tw
namespace Ba
open Go.Proofs.Tryz
open Go.RowKit V Pk Tr Vl Go.Proofs.YtihmfhcjbmlnaaaGreatDoor.Nm Pc Cd Ex Tw
open Pa (aT aY)
variable {G:List (Nat×List Value)} {m:Int}
noncomputable def oM(l:List aA)(nm:ByteArray):List (List Vl)×Int:=if aC l nm<0 then ([],8) else ((er (l.getD (aC l nm).toNat ⟨nm,[],[],nc⟩).ix).map fun x=>rowAt (l.getD (aC l nm).toNat ⟨nm,[],[],nc⟩) x.2,0)
theorem LW:(Tryz.prog.info? 30).map (fun i=>(i.zero,i.size,i.bytes))=some (some (.slice none 0 0),1,24):=by kernel_rfl
theorem Em(hm:(3,marksC)∈G)(hw:(1,wordsC)∈G)(ht:(0,typesC)∈G)(hG:(2,[Value.int .i64 m])∈G)(l:List aA){n:Nat}(g:pY l n)(nm:ByteArray):VP Tryz.prog G 13 [.agg [aj 5 cr (l)],aG nm] (.dF [.list 1 ((oM l nm).1.flatMap eX) (oM l nm).1.length,ae (oM l nm).2]):=by
 exact z4
end Ba
namespace Ba
open Go.Proofs.Tryz
open Go.RowKit V Pk Tr Vl Go.Proofs.YtihmfhcjbmlnaaaGreatDoor.Nm Pc Cd Ex Tw
open Pa (aT aY dJ bZ cY cZ dA dO dr bN bJ Ph)
section
variable {G:List (Nat×List Value)} {m:Int}
theorem Ea{v:Vl}(h:bW v=0)(hk:v.k=2):fS [v]=(eU [v],0):=by
 exact KJ
theorem Ht{t:aA}{n:Nat}(g:dN t n){i:Int}(h:gw t i):∃(v:Vl) (r:List Vl),rowAt t i=v::r/\r.length=3/\v.k=2/\v.s.size=0/\v.Ok/\bW v=0/\de (rowAt t i)=eU [v]:=by
 obtain⟨h4,bf⟩:=gw.ok g h;obtain⟨h0,h1,h2⟩:=h;have hf:=(g.row _ h1 h2).1;rw[<-ju h1] at hf;match hr:rowAt t i,h4 with
 | v::r,h4 =>
  rw[hr] at hf bf;obtain⟨hv,hc⟩:=bf v mem_cons_self;have hk:v.k=2:=by
   unfold Pc.dV at hf;rw[if_neg wA,if_neg vg] at hf;unfold cx Pc.pH at hf;split at hf
   ·rename_i h1;exact absurd hf h1
   rename_i h1;have h1:=Decidable.not_not.1 h1;unfold Pc.mh at h1;rw[if_neg (by rw[hc];decide)] at h1;split at h1
   ·cases h1
   rename_i h3;exact Decidable.not_not.1 fun e=>h3 ⟨e,.inl rfl⟩
  refine⟨v,r,rfl,by simpa using h4,hk,?_,hv,hc,?_⟩
  ·unfold bW at hc;rw[if_neg w4,if_neg w4,if_pos hk] at hc;split at hc
   ·cases hc
   rename_i h3;exact Decidable.not_not.1 h3
  exact JU
noncomputable def iz(t:aA):List (List Vl):=(er t.ix).map fun x=>rowAt t x.2
theorem Ez{l:List aA}{nm:ByteArray}{i:Nat}(h:aC l nm=(i:Int))(hi:i<l.length):oM l nm=(iz l[i],0):=by
 exact z117
theorem DY{t:aA}{n:Nat}(g:dN t n):(iz t).length<=16000:=by
 exact Qb
def iR(w:List aQ):aT:={bN with kind:=4,table:=⟨#[116]⟩,ah:=w}
theorem D0(x:ByteArray)(w:List aQ):VP Tryz.prog G 15 [aG x,aj 5 cO w] (.agg [ae 4,aG x,aJ,aJ,aJ,aW false,aj 5 cO w,dj,aW false,ae (-1),dj,aJ]):=by
 exact z157
theorem ahK(x:Int):VP Tryz.prog G 16 [ae x] (.agg (cV (dz x))):=by
 refine bA func16 rfl ntmps16 aO fun X0 w0 bz=>?_;refine cq ?_;refine cD (ds:=[_,_,_]) au rfl rfl zeroValue36 rfl (fun b2=>?_);refine ap 5 [0,2] ?_;refine az 2 ?_;refine aN 0 [_,_,_] sizeOf36 ?_;refine ap 5 [2] ?_;exact z46
end
theorem IS{s:aT}(hg:cY s)(hk:s.kind=4)(hn:s.names.length<=6)(hw:s.ah.length<=15):bZ s=0:=by
 exact Rw
theorem yY(w:List aQ)(hw:Pa.tL w):cY (iR w):=(Pa.DB (t:=⟨#[116]⟩) zR (N:=[]) ⟨Nat.zero_le _,fun _ h=>by cases h⟩ (c:=false) (fun h=>by cases h) (o:=⟨#[]⟩) (.inl rfl) (d:=false) (fun _=>rfl) (m:=-1) ⟨by decide,by decide⟩).2 w hw (.inl (by show(4:Int)<=4;decide))
end Ba
namespace Ex
open Go.Proofs.Tryz
open Go.RowKit V Pk Vl Go.Proofs.YtihmfhcjbmlnaaaGreatDoor.Nm Pc Cd
open Go.Lib (compareBytes)
variable {x h:Int} {ops:List aQ}
def mR:ByteArray:=⟨#[105,100]⟩
def iJ:aQ:=⟨2,aX,mR⟩
def iq(x:Int):aQ:=⟨1,dz x,⟨#[]⟩⟩
def bY(x:Int):List UInt8:=eU [dz x]
theorem Nj(hx:0<=x):jj (dz x)=0:=by unfold jj;rw[if_neg (by intro h;have:x = -9223372036854775808:=h.2;omega)];exact BZ x
theorem Ja(h0:0<=h):ga h iJ=0:=by unfold ga iJ;simp[H7,HD,mR,Pg,cn];omega
theorem zn(hx:0<=x)(h0:0<=h):ga h (iq x)=0:=by unfold ga iq;simp[Nj hx,cn];omega
theorem rB{o:aQ}{r:List aQ}(he:ga h o=0){h':Int}(E:h+(1-cn o.k)=h'):runs h (o::r)=runs h' r:=by rw[runs,if_pos he,E]
theorem Jb:lQ mR iJ=true:=by decide +kernel
theorem OT:gU iJ=false:=rfl
theorem IM(x:Int):gU (iq x)=true:=rfl
theorem JB{α:Type}{p:α->Bool}{a:α}{r:List α}(h:p a=true):dD p (a::r)=0:=by unfold dD;simp[findIdx?_cons,h]
theorem JC{α:Type}{p:α->Bool}{a b:α}{r:List α}(h:p a=false)(h':p b=true):dD p (a::b::r)=1:=by unfold dD;simp[findIdx?_cons,h,h']
theorem BL(x:Int):fS [dz x]=(bY x,0):=by
 exact KL
theorem pu(x:Int):(bY x).length=9:=by unfold bY eU jO qA;simp[dz,kj]
theorem LU{k:Int}(hr:runs 0 ops=some 1)(hl:ops.length<=40)(hp:ops.length≠0)(hk:rM cx ops=(k,0))(E:k=1\/k=0):eG cx ops=(gI mR ops.length ops ([],[]),0):=by
 exact z76
theorem IN(a b:Int):gk cx iJ a b=(2,0):=by unfold gk;rw[if_neg w7,if_pos (by rfl)];unfold u4;rw[show iJ.nm=⟨#[105,100]⟩ from rfl,PB];rfl
theorem Ij(x a b:Int):gk cx (iq x) a b=(2,0):=by unfold gk;rw[if_pos (by rfl)];rfl
theorem y8{k a b:Int}(h1:k≠1)(h2:k≠2)(h:okF k a b=true):gk cx (fI k) a b=(wG k,0):=by unfold gk;rw[if_neg (by exact h1),if_neg (by exact h2),if_pos (by exact h)];rfl
theorem qi{o:aQ}{r:List aQ}{st:List Int}{v:Int}(h:gk cx o (fT 0 o.k st) (fU 0 o.k st)=(v,0)){pR:List Int}(hs:st.take (st.length-(cn o.k).toNat)++[v]=pR):jH 0 (gk cx) (o::r) st=jH 0 (gk cx) r pR:=by
 rw[Ef (by rw[h]),h,hs]
theorem Oi(x:Int):compareBytes (bY x) []=1:=by
 have:=pu x;cases h:bY x with
 | nil=>rw[h] at this;cases this
 | cons a r=>rfl
theorem ML(x kc:Int)(eq not:Bool):pC kc eq not (bY x) ([],[])=(bif eq||(kc==0)==not then bY x else [],bif eq||(kc==0)!=not then bY x else []):=by
 unfold pC pE sW;cases(eq||(kc==0)==not)<;>cases(eq||(kc==0)!=not)<;>simp[Oi]
theorem IP(x:Int){not:Bool}{kc lc:Int}{b:lY}(h3:ops.length=3)(hn:not=true->kx ops 2=7)(h67:kx ops 2=6\/kx ops 2=7)(vC:dD (lQ mR) (ops.take 2)=kc)(FX:dD gU (ops.take 2)=lc)(wR:0<=kc)(pM:0<=lc)(hx:(ops.getD lc.toNat (fI 0)).v=dz x):kY mR ops not b=pC kc (kx ops 2==6) not (bY x) b:=by
 exact aaD
theorem arj(hx:0<=x):eG cx [iJ,iq x,fI 6]=(((bY x),(bY x)),0):=by
 rw[LU (ops:=[iJ,iq x,fI 6]) (k:=1) (by rw[rB (h':=1) (Ja w7) (by rfl)];rw[rB (h':=2) (zn w4 w7) (by rfl)];rw[rB (h':=1) (xA w7 w7 w7) (by rfl)];rfl) bC bC (by unfold rM;rw[qi (v:=2) (pR:=[2]) (IN _ _) (by rfl)];rw[qi (v:=2) (pR:=[2,2]) (Ij _ _ _) (by rfl)];rw[qi (v:=1) (pR:=[1]) (y8 w7 w7 (by rfl)) (by rfl)];rfl) (.inl rfl)];have:∀b,kY mR [iJ,iq x,fI 6] false b=pC 0 (kx [iJ,iq x,fI 6] 2==6) false (bY x) b:=fun b=>IP x (ops:=[iJ,iq x,fI 6]) (not:=false) (kc:=0) (lc:=1) rfl (fun h=>absurd h w7) (.inl rfl) (JB Jb) (JC OT (IM x)) w7 w7 rfl;rw[show gI mR [iJ,iq x,fI 6].length [iJ,iq x,fI 6] ([],[])=kY mR [iJ,iq x,fI 6] false ([],[]) from rfl];rw[this,ML];rfl
end Ex
namespace Ba
open Go.Proofs.Tryz
open Go.RowKit V Pk Tr Vl Go.Proofs.YtihmfhcjbmlnaaaGreatDoor.Nm Pc Cd Ex Tw
open Pa (aT aY dJ bZ cY cZ dA dO dr bN bJ Ph)
open Go.Lib (compareBytes)
variable {t:aA} {n:Nat} {a k:Int}
def eu(r:List Vl):Int:=(r.getD 0 aX).n
theorem IT{v:Vl}(hk:v.k=2)(hs:v.s.size=0):v=dz v.n:=by
 exact JS
theorem qR(g:dN t n){x:K×Int}(hx:x∈er t.ix):x.1=bY (eu (rowAt t x.2))/\(rowAt t x.2).getD 0 aX=dz (eu (rowAt t x.2))/\(rowAt t x.2).length=4/\(dz (eu (rowAt t x.2))).Ok:=by
 exact KF
theorem uj{b:Int}(ha:(dz a).Ok)(hb:(dz b).Ok)(h:a<b):bI (bY a) (bY b):=by
 exact RC
theorem Ov{b:Int}(ha:(dz a).Ok)(hb:(dz b).Ok):bI (bY a) (bY b)↔a<b:=⟨fun h=>by
 rcases Int.lt_trichotomy a b with q|q|q
 ·exact q
 ·subst q;exact absurd h (jK _)
 exact absurd (l5 h (uj hb ha q)) (jK _),uj ha hb⟩
theorem Bo{α:Type}{p q:α->Bool}:∀{l:List α},(∀x∈l,p x=q x)->l.find? p=l.find? q
 | [],_=>rfl
 | a::l,h=>by rw[find?_cons,find?_cons,h a mem_cons_self,Bo fun x hx=>h x (mem_cons_of_mem _ hx)]
theorem Bn{α:Type}{p q:α->Bool}:∀{l:List α},(l.filter p).find? q=l.find? fun x=>p x&&q x
 | []=>rfl
 | a::l=>by cases hp:p a<;>simp[filter_cons,find?_cons,hp,Bn (l:=l)]
theorem Nq(g:dN t n)(hk:(dz k).Ok):sR t.ix (dG t.ix) (bY k)=(er t.ix).find? (fun x=>decide (k<eu (rowAt t x.2))):=by
 exact z49
def ie(nm:ByteArray)(k:Int)(l:List (List Vl)):ByteArray:=match l.find? (fun r=>decide (k<eu r)) with
 | some r=>dI nm (bY (eu r))
 | none=>eB nm
theorem DA(nm:ByteArray)(k:Int)(r:List Vl)(l:List (List Vl)):ie nm k (r::l)=if k<eu r then dI nm (bY (eu r)) else ie nm k l:=by
 exact z138
theorem D7(g:dN t n)(hk:(dz k).Ok)(m:Int):oN t (bY k) m=⟨ie t.nm k (iz t),m⟩:=by
 exact z53
theorem BI{r:List Vl}(h:r∈iz t):∃x∈er t.ix,rowAt t x.2=r:=mem_map.1 h
theorem Nk(g:dN t n){c:Int}(ha:(dz a).Ok)(hc:(dz c).Ok):jF t.ix (bY a) (bY c)=(er t.ix).filter fun x=>decide (a<=eu (rowAt t x.2))&&decide (eu (rowAt t x.2)<=c):=by
 exact z75
theorem Il(g:dN t n){c:Int}(hc:(dz c).Ok)(lo:K)(m:Int):jf t lo (bY c) m=(jF t.ix lo (bY c)).map (fun x=>(⟨dI t.nm x.1,m⟩:bq))++[⟨ie t.nm c (iz t),m⟩]:=by
 unfold jf;rw[if_pos EV,D7 g hc]
theorem ak3(g:dN t n)(hk:(dz k).Ok)(m:Int):jf t (bY k) (bY k) m=replicate ((iz t).filter fun r=>decide (eu r=k)).length ⟨dI t.nm (bY k),m⟩++[⟨ie t.nm k (iz t),m⟩]:=by
 rw[Il g hk,Nk g hk hk];congr 1;unfold iz;rw[filter_map,length_map];have he:((er t.ix).filter fun x=>decide (k<=eu (rowAt t x.2))&&decide (eu (rowAt t x.2)<=k))=(er t.ix).filter ((fun r=>decide (eu r=k)) ∘ fun x=>rowAt t x.2):=by
  refine filter_congr fun x hx=>?_;show(decide (k<=eu (rowAt t x.2))&&decide (eu (rowAt t x.2)<=k))=decide (eu (rowAt t x.2)=k);by_cases q:eu (rowAt t x.2)=k
  ·rw[q];simp
  rw[decide_eq_false q,Bool.and_eq_false_iff];by_cases q2:k<=eu (rowAt t x.2)
  ·exact .inr (decide_eq_false w4)
  exact .inl (decide_eq_false q2)
 rw[he,eq_replicate_iff];refine⟨by rw[length_map],fun d hd=>?_⟩;obtain⟨x,hx,rfl⟩:=mem_map.1 hd;obtain⟨eY,mq⟩:=mem_filter.1 hx;have mq:eu (rowAt t x.2)=k:=of_decide_eq_true mq;rw[(qR g eY).1,mq]
theorem Aa{l:List aA}(h:l.map aA.nm=bJ)(h0:0<l.length):l[0].nm=⟨#[116]⟩:=by
 exact z119
end Ba
namespace Ba
open Go.Proofs.Tryz
open Go.RowKit V Pk Tr Vl Go.Proofs.YtihmfhcjbmlnaaaGreatDoor.Nm Pc Cd Ex Tw
open Pa (aT aY dJ bZ cY cZ dA dO dr bN bJ Ph)
variable {G:List (Nat×List Value)} {m:Int}
variable {k:Int}
theorem x8(E I:ByteArray)(m1 O:Int):∀w,(Op.equalIn 10000 44 (.agg [.string E,.int .i64 m1].toArray) (.agg [.string I,.int .i64 O].toArray)).run Tryz.prog w = .ok (E.toList==I.toList&&m1==O) w:=fun w=>by
 have hS:Tryz.prog.underlying 44=some (.struct (Tryz.prog.fieldsOf 44)):=(by kernel_rfl)
 have hp:Tryz.prog.stoodInHeld 44=false:=(by kernel_rfl)
 rw[show(10000:Nat)=9999+1 from rfl,run_equalIn_agg w 9999 44 _ _ hS hp];have u:=underlying44;have U:=underlying3;have Z:=underlying9;have a3:=isAgg3;have a9:=isAgg9;have z3:=sizeOf3;have z9:=sizeOf9;simp only[Program.fieldsOf,u];go_simp
 by_cases h1:E.toList=I.toList<;>by_cases h2:m1=O<;>simp[h1,h2]
theorem O1(k:K):(⟨#[107,116,58]⟩:ByteArray)++⟨k.toArray⟩=dI ⟨#[116]⟩ k:=by
 exact P8
theorem sY:tB ⟨#[116]⟩=⟨#[116,116]⟩:=by decide +kernel
theorem PA:eB ⟨#[116]⟩=⟨#[101,116]⟩:=by decide +kernel
theorem OS(k:Int):ie ⟨#[116]⟩ k []=⟨#[101,116]⟩:=PA
theorem tU(h0:0<=k)(h1:k<14):(dz k).Ok:=ok_int ⟨by omega,by omega⟩
theorem DZ{t:aA}{n:Nat}(g:dN t n):∀r∈iz t,r.length=4/\(dz (eu r)).Ok:=fun r hr=>by
 obtain⟨x,hx,rfl⟩:=BI hr;obtain⟨_,_,h3,h4⟩:=qR g hx;exact⟨h3,h4⟩
theorem Ep{r:List Vl}(h:0<r.length):(r[0]).n=eu r:=by unfold eu;rw[getD_eq_getElem?_getD,getElem?_eq_getElem h];rfl
theorem MM{l:List aA}{a c:Nat}(gn:mZ l a c)(h:l.map aA.nm=bJ)(h0:0<l.length){w:List aQ}(hw:Pa.tL w)(hl:w.length<=15){lo hi:K}(hb:eG cx w=((lo,hi),0))(fA:0<lo.length):gE l (iR w)=(⟨⟨#[]⟩,1⟩::⟨⟨#[116,116]⟩,1⟩::jf l[0] lo hi 3,0):=by
 exact z38
theorem IQ(k:Int)(r:List Vl)(l:List (List Vl)):((r::l).filter fun r=>decide (eu r=k)).length=(l.filter fun r=>decide (eu r=k)).length+(if eu r=k then 1 else 0):=by
 rw[filter_cons];by_cases h:eu r=k
 ·rw[if_pos (decide_eq_true h),if_pos h,length_cons]
 rw[if_neg (by rw[decide_eq_false h];exact Bool.noConfusion),if_neg h];rfl
def yW(k:Int):List aQ:=[Ex.iJ,Ex.iq k,fI 6]
theorem amv:∀k:Nat,k<14->Pa.oL (yW (k:Int))=0:=by decide +kernel
theorem ZP(h0:0<=k)(h1:k<14):Pa.tL (yW k):=⟨by show 3<=40;decide,by have:=amv k.toNat w4;rwa [Int.toNat_of_nonneg h0] at this,fun o ho=>by
 unfold yW at ho;simp only[mem_cons,not_mem_nil,or_false] at ho;rcases ho with rfl|rfl|rfl
 ·exact⟨by decide,by decide,by decide⟩
 ·exact⟨Nat.zero_le _,by show _<=k;omega,by show k<=_;omega⟩
 exact⟨by decide,by decide,by decide⟩⟩
theorem ajv{l:List aA}{a c:Nat}(gn:mZ l a c)(h:l.map aA.nm=bJ)(h0:0<l.length)(k0:0<=k)(k1:k<14):gE l (iR (yW k))=(([⟨⟨#[]⟩,1⟩,⟨⟨#[116,116]⟩,1⟩]++replicate ((iz l[0]).filter fun r=>decide (eu r=k)).length (⟨dI ⟨#[116]⟩ (bY k),3⟩:bq))++[⟨ie ⟨#[116]⟩ k (iz l[0]),3⟩],0):=by
 have g:=gn.g.tb _ (getElem_mem h0);rw[MM gn h h0 (ZP k0 k1) (by show 3<=15;decide) (Ex.arj k0) EV,ak3 g (tU k0 k1),Aa h h0];rfl
theorem zb(hG:(2,[Value.int .i64 m])∈G)(n:Int)(hn:(dz n).Ok):VP Tryz.prog G 14 [ae n] (aG (dI ⟨#[116]⟩ (bY n))):=by
 exact Ry
theorem Md:(Tryz.prog.info? 44).map (fun i=>(i.zero,i.size,i.bytes))=some (some (.agg #[.string ⟨#[]⟩,.int .i64 0]),2,24):=by kernel_rfl
theorem aeG(hm:(3,marksC)∈G)(hw:(1,wordsC)∈G)(ht:(0,typesC)∈G)(hG:(2,[Value.int .i64 m])∈G)(ps:List Ph)(gv:∀p∈ps,p.Ok)(fC:ps.length<=maxLen)(q:Int)(q1:-9223372036854775808<=q)(q2:q<=9223372036854775807):VP Tryz.prog G 5 [.list 14 (ps.flatMap Ph.cs) ps.length,ae q] (aW true):=by
 refine bA func5 rfl ntmps5 aO fun X0 w0 bz=>?_;have dy:=ee;have kb:=iK q (show(1:Int)<=14 by decide);have kp:=jU G q 14 q1 q2 w7;generalize cN q 14=kk at kb kp;obtain⟨k0,k1⟩:=kb;refine ay [0,1] ?_;refine az 1 ?_;refine eH au rfl rfl rfl call10 (zq hm hw ht hG ps gv fC) ⟨ot,trivial⟩ (fj _) ?_;rintro _ _ ⟨l,a,c,rfl,rfl,gn,Bf,Z⟩;refine cD (ds:=[_]) au rfl rfl zeroValue25 rfl (fun b5=>?_);refine aN 0 [_] sizeOf25 ?_;refine ap 111 [1,5] ?_;refine cL ?_;have hU:=At Z;have pi:0<l.length:=(by omega)
 have hg0:=gn.g.tb _ (getElem_mem pi);have Bk:=Em hm hw ht hG l gn.g ⟨#[116]⟩;rw[Ez (i:=0) (Cs Z) pi] at Bk;dsimp only at Bk;have yV:=DY hg0;have A5:=DZ hg0;have dQ:=VC.lK (tX hm hw ht hG l gn.g (iR (yW kk)) (cY.st (yY _ (ZP k0 k1)))) (args':=[.agg [aj 5 cr (l)],.agg [ae 4,aG ⟨#[116]⟩,aJ,aJ,aJ,aW false,.list 5 ((yW kk).flatMap cO) (yW kk).length,dj,aW false,ae (-1),dj,aJ]]) ⟨aH,kW ⟨aH,aH,bQ,bQ,bQ,aH,aH,aH,aH,aH,aH,bQ,trivial⟩,trivial⟩;rw[ajv gn Z pi k0 k1] at dQ;dsimp only at dQ;generalize iz l[0]=ir at Bk yV A5 dQ;have hWf:((ir.filter fun r=>decide (eu r=kk)).length)<=ir.length:=length_filter_le _ _;generalize hL:(([⟨⟨#[]⟩,1⟩,⟨⟨#[116,116]⟩,1⟩]:List bq)++replicate (ir.filter fun r=>decide (eu r=kk)).length (⟨dI ⟨#[116]⟩ (bY kk),3⟩:bq))++[⟨ie ⟨#[116]⟩ kk ir,3⟩]=L at dQ;have sD:L.length<=20000:=(by rw[<-hL];simp only[length_append,length_replicate,length_cons,length_nil];omega)
 have yL:=zb (G:=G) hG kk (tU k0 k1);refine fW [5,6] ?_;refine cA (kp) ?_;refine bB ?_;refine cJ [5,6,7,8] ?_;refine cA (ahK kk) ?_;refine cA (D0 ⟨#[116]⟩ (yW kk)) ?_;refine cA (dQ) ?_;refine bB ?_;refine cW [6,7,8,9,10] (Bk) ?_;refine az 2 ?_;refine eR (cU 0 [_,_]) [.string ⟨#[]⟩,.int .i64 0,.string ⟨#[]⟩,.int .i64 0] [_,_,_,_] zeroValue44 runUnderlying39 sizeOf44 (fun AV=>?_);refine cg (eM (S1:=[⟨AV,44,2*2,flatMap lp (([⟨⟨#[]⟩,1⟩,⟨⟨#[116,116]⟩,1⟩]:List bq))⟩]) (A:=[_])) ?_;refine ap 111 [6,7,8,9,10,11] ?_;refine ay [6,7,8,9,10,11,12] ?_;refine ay [6,7,8,9,10,11,12,13] ?_;refine kU ?_
 refine oB (fun (aR:Nat×ByteArray×Nat×Option Addr×Nat×List ag) aE=>match aR with|(j,nx,q2,O,U,Sw)=>(j<=ir.length)/\(nx=ie ⟨#[116]⟩ kk (ir.drop j))/\(q2=((ir.drop j).filter fun r=>decide (eu r=kk)).length)/\(q2<=16000)/\(bF 44 2 ((([⟨⟨#[]⟩,1⟩,⟨⟨#[116,116]⟩,1⟩]:List bq)++replicate q2 (⟨dI ⟨#[116]⟩ (bY kk),3⟩:bq)).flatMap lp) (([⟨⟨#[]⟩,1⟩,⟨⟨#[116,116]⟩,1⟩]:List bq)++replicate q2 (⟨dI ⟨#[116]⟩ (bY kk),3⟩:bq)).length O U Sw)/\aE=(⟨111,[(6,ae kk),(7,aj 2 lp L),(8,ae 0),(9,aj 1 eX ir),(10,ae 0),(11,aS O (([⟨⟨#[]⟩,1⟩,⟨⟨#[116,116]⟩,1⟩]:List bq)++replicate q2 (⟨dI ⟨#[116]⟩ (bY kk),3⟩:bq)).length U),(12,aG nx),(13,ae (((j:Nat):Int)-1))],(⟨b5,25,1,[aj 5 cr (l)]⟩::Sw)⟩:St)) (fun (aR:Nat×ByteArray×Nat×Option Addr×Nat×List ag)=>match aR with|(j,nx,q2,O,U,Sw)=>j) (ir.length,⟨#[101,116]⟩,0,(some ⟨AV,0,none⟩),2,[⟨AV,44,2*2,flatMap lp (([⟨⟨#[]⟩,1⟩,⟨⟨#[116,116]⟩,1⟩]:List bq))⟩]) ⟨(Nat.le_refl _),(by rw[drop_of_length_le (Nat.le_refl _),OS]),(by rw[drop_of_length_le (Nat.le_refl _)];rfl),(Nat.zero_le _),(bF.cast (cj (g:=lp) (sz:=2) (e:=44) (ls:=([⟨⟨#[]⟩,1⟩,⟨⟨#[116,116]⟩,1⟩]:List bq)) (Nat.le_refl _) (show 2<=maxLen by decide)) (by rfl)),rfl⟩ (aL (h:=FJ)) ?_;rintro⟨j,nx,q2,O,U,Sw⟩ _ ⟨hj,kM,vy,hq3,A9,rfl⟩;refine ax [6,7,8,9,10,11,12,13,43] ?_ ?_<;>intro aP bH
 ·have rh:1<=j:=(by omega)
  have aa:j-1<ir.length:=(by omega)
  obtain⟨FR,FT⟩:=A5 (ir[j-1]'aa) (getElem_mem aa);have yE:0<(ir[j-1]'aa).length:=(by omega)
  have hid:=Ep yE;have iG:ir.drop (j-1)=(ir[j-1]'aa)::ir.drop j:=(by rw[drop_eq_getElem_cons aa,show j-1+1=j by omega])
  have FU:=zb (G:=G) hG ((ir[j-1]'aa)[0]).n (by rw[hid];exact FT);refine cJ [6,7,8,9,10,11,12,13,54] ?_;refine aM 2 ?_ (h:=CV);refine aM 1 ?_ (h:=w9);refine bB ?_;refine bX ?_ ?_<;>intro bg cM
  ·refine fW [6,7,8,9,10,11,12,13] ?_;refine aM 2 ?_ (h:=CV);refine aM 1 ?_ (h:=w9);refine cA (FU) ?_;refine bB ?_;refine cJ [6,7,8,9,10,11,12,13,71] ?_;refine aM 2 ?_ (h:=CV);refine aM 1 ?_ (h:=w9);refine bB ?_;refine bX ?_ ?_<;>intro cl di
   ·refine dB 2 ?_;refine dK call14 (yL) ?_;refine aF 1 ?_;refine eR (cU 0 [_]) [.string ⟨#[]⟩,.int .i64 0] [_,_] zeroValue44 runUnderlying39 sizeOf44 (fun b76=>?_);refine gb 0 76 2 1 ?_;refine gi (ls:=(([⟨⟨#[]⟩,1⟩,⟨⟨#[116,116]⟩,1⟩]:List bq)++replicate q2 (⟨dI ⟨#[116]⟩ (bY kk),3⟩:bq))) (new:=[(⟨dI ⟨#[116]⟩ (bY kk),3⟩:bq)]) (Sq:=Sw) qQ IL au rfl rfl underlying39 Md rfl w7 ot A9 (dL (A:=[_])) ot bC CQ CQ (fun I E Fp Fq=>?_);refine cg (eM (S1:=[⟨I,44,E*2,flatMap lp ((([⟨⟨#[]⟩,1⟩,⟨⟨#[116,116]⟩,1⟩]:List bq)++replicate q2 (⟨dI ⟨#[116]⟩ (bY kk),3⟩:bq))++[(⟨dI ⟨#[116]⟩ (bY kk),3⟩:bq)])⟩]) (A:=[_])) ?_;refine ap 111 [6,7,8,9,10,11,12,13] ?_;refine bM [6,7,8,9,10,11,12,13] ?_;refine⟨((j-1),(dI ⟨#[116]⟩ (bY ((ir[j-1]'aa)[0]).n)),(q2+1),(some ⟨I,0,none⟩),E,[⟨I,44,E*2,flatMap lp ((([⟨⟨#[]⟩,1⟩,⟨⟨#[116,116]⟩,1⟩]:List bq)++replicate q2 (⟨dI ⟨#[116]⟩ (bY kk),3⟩:bq))++[(⟨dI ⟨#[116]⟩ (bY kk),3⟩:bq)])⟩]),_,cR,(aL (h:=FJ)),w4,(by rw[iG,DA,if_pos w4,hid]),(by rw[iG,IQ,if_pos w4,<-vy]),Kr,(bF.cast (cj Fp Fq) JG),rfl⟩
   refine bM [6,7,8,9,10,11,12,13] ?_;refine⟨((j-1),(dI ⟨#[116]⟩ (bY ((ir[j-1]'aa)[0]).n)),q2,O,U,Sw),_,cR,(aL (h:=FJ)),w4,(by rw[iG,DA,if_pos w4,hid]),(by rw[iG,IQ,if_neg w4];exact vy),Kr,(bF.cast A9 JG),rfl⟩
  refine cJ [6,7,8,9,10,11,12,13,71] ?_;refine aM 2 ?_ (h:=CV);refine aM 1 ?_ (h:=w9);refine bB ?_;refine bX ?_ ?_<;>intro cl di
  ·refine dB 2 ?_;refine dK call14 (yL) ?_;refine aF 1 ?_;refine eR (cU 0 [_]) [.string ⟨#[]⟩,.int .i64 0] [_,_] zeroValue44 runUnderlying39 sizeOf44 (fun b76=>?_);refine gb 0 76 2 1 ?_;refine gi (ls:=(([⟨⟨#[]⟩,1⟩,⟨⟨#[116,116]⟩,1⟩]:List bq)++replicate q2 (⟨dI ⟨#[116]⟩ (bY kk),3⟩:bq))) (new:=[(⟨dI ⟨#[116]⟩ (bY kk),3⟩:bq)]) (Sq:=Sw) qQ IL au rfl rfl underlying39 Md rfl w7 ot A9 (dL (A:=[_])) ot bC CQ CQ (fun I E Fp Fq=>?_);refine cg (eM (S1:=[⟨I,44,E*2,flatMap lp ((([⟨⟨#[]⟩,1⟩,⟨⟨#[116,116]⟩,1⟩]:List bq)++replicate q2 (⟨dI ⟨#[116]⟩ (bY kk),3⟩:bq))++[(⟨dI ⟨#[116]⟩ (bY kk),3⟩:bq)])⟩]) (A:=[_])) ?_;refine ap 111 [6,7,8,9,10,11,12,13] ?_;refine bM [6,7,8,9,10,11,12,13] ?_;refine⟨((j-1),nx,(q2+1),(some ⟨I,0,none⟩),E,[⟨I,44,E*2,flatMap lp ((([⟨⟨#[]⟩,1⟩,⟨⟨#[116,116]⟩,1⟩]:List bq)++replicate q2 (⟨dI ⟨#[116]⟩ (bY kk),3⟩:bq))++[(⟨dI ⟨#[116]⟩ (bY kk),3⟩:bq)])⟩]),_,cR,(aL (h:=FJ)),w4,P0,(by rw[iG,IQ,if_pos w4,<-vy]),Kr,(bF.cast (cj Fp Fq) JG),rfl⟩
  refine bM [6,7,8,9,10,11,12,13] ?_;refine⟨((j-1),nx,q2,O,U,Sw),_,cR,(aL (h:=FJ)),w4,P0,(by rw[iG,IQ,if_neg w4];exact vy),Kr,(bF.cast A9 JG),rfl⟩
 obtain rfl:j=0:=(by omega)
 rw[drop_zero] at kM vy;have hLw:((([⟨⟨#[]⟩,1⟩,⟨⟨#[116,116]⟩,1⟩]:List bq)++replicate q2 (⟨dI ⟨#[116]⟩ (bY kk),3⟩:bq))++[(⟨nx,3⟩:bq)])=L:=(by rw[<-hL,kM,vy])
 refine az 3 ?_;refine eR (cU 0 [_]) [.string ⟨#[]⟩,.int .i64 0] [_,_] zeroValue44 runUnderlying39 sizeOf44 (fun b81=>?_);refine gb 0 81 2 1 ?_;refine gi (ls:=(([⟨⟨#[]⟩,1⟩,⟨⟨#[116,116]⟩,1⟩]:List bq)++replicate q2 (⟨dI ⟨#[116]⟩ (bY kk),3⟩:bq))) (new:=[(⟨nx,3⟩:bq)]) (Sq:=Sw) qQ IL au rfl rfl underlying39 Md rfl w7 ot A9 (dL (A:=[_])) ot bC CQ CQ (fun Gt Fg Qw Qx=>?_);refine cg (eM (S1:=[⟨Gt,44,Fg*2,flatMap lp ((([⟨⟨#[]⟩,1⟩,⟨⟨#[116,116]⟩,1⟩]:List bq)++replicate q2 (⟨dI ⟨#[116]⟩ (bY kk),3⟩:bq))++[(⟨nx,3⟩:bq)])⟩]) (A:=[_])) ?_;refine qN (t:=82) (Sq:=[⟨Gt,44,Fg*2,flatMap lp ((([⟨⟨#[]⟩,1⟩,⟨⟨#[116,116]⟩,1⟩]:List bq)++replicate q2 (⟨dI ⟨#[116]⟩ (bY kk),3⟩:bq))++[(⟨nx,3⟩:bq)])⟩]) lk (cj Qw Qx) (dg qQ _) (dL (A:=[_])) ?_;refine ap 111 [7,8,10,11] ?_;refine cL ?_;refine cL ?_;rw[hLw];refine bM [7,11,95] ?_;refine bX ?_ ?_<;>intro da eP
 ·exact absurd da (by (simp at da))
 refine ay [7,11,14] ?_;refine eZ [7,11] (fun aU j4 (i:Nat) aE=>(i<=L.length)/\aE=(⟨111,(14,ae (i:Nat))::aU,j4⟩:St)) (fun (i:Nat)=>L.length-i) 0 ⟨(Nat.zero_le _),rfl⟩ ?_;rintro i _ ⟨hi,rfl⟩;refine ax [7,11,14,99] ?_ ?_<;>intro eo fR
 ·have gq:i<L.length:=(by omega)
  refine cJ [7,11,14,110] ?_;refine aM 8 ?_ (h:=by exact(Uv rfl ot ot eqGuardType44 (x8 _ _ _ _)));refine kN ?_;refine bX ?_ ?_<;>intro fH ik
  ·exact absurd fH (by (simp at fH))
  refine bM [7,11,14] ?_;refine⟨(i+1),_,cR,aL,w4,rfl⟩
 refine ay [4] ?_;exact z46
theorem walkNeedsPoint(l:List Ph)(v:Value)(ok:(∀x∈l,x.Ok)/\l.length<=maxLen)(q:Int)(E:(Lit.int .i64 q).wf=true)(w:World)(h1:MarksTab w)(h2:WordsTab w)(h3:TypesTab w){m:Int}(hm:Tab.lS w 2 [Value.int .i64 m])(hv:cG w (fun _=>False) (.list 14 (l.flatMap Ph.cs) l.length) v) :Calls Tryz.prog 5 #[v,.int .i64 q] w fun e w'=>e = .returned (.bool true)/\Below w.heap.size w w' :=
 (aeG (G:=tM m) Bg Bh Bi Bj l ok.1 ok.2 q (qw E).1 (qw E).2).Ae (As h1 h2 h3 hm) (vs:=[v,_]) (cX.cons hv (cX.vs w _ [_]))
end Ba
end Go.Proofs.YtihmfhcjbmlnaaaGreatDoor
