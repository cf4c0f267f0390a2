/-
  NeedsRead: walks and plain facts.
-/
import Derived.Test.YtihmfhcjbmlnaaaGreatDoorPNA9
set_option linter.unusedVariables false
set_option linter.unusedSimpArgs false
set_option maxRecDepth 100000
set_option maxHeartbeats 4000000
namespace Go.Proofs.YtihmfhcjbmlnaaaGreatDoor
open List
namespace Vl
open Go.Proofs.Tryz
open Go.RowKit V Pk
theorem Vl.ext'{x y:Vl}(h1:x.k=y.k)(h2:x.n=y.n)(h3:x.s=y.s):x=y:=by cases x;cases y;simp only at h1 h2 h3;subst h1 h2 h3;rfl
variable {G:List (Nat×List Value)}
end Vl
namespace Cd
open Go.Proofs.Tryz
open Go.RowKit V Pk Vl
section
def eC(l:List UInt8):Nat:=l.foldl (fun a c=>a*256+c.toNat) 0
theorem sJ(l:List UInt8)(c:UInt8):eC (l++[c])=eC l*256+c.toNat:=by unfold eC;rw[foldl_append];rfl
theorem qo:∀(n:Nat) (l:List UInt8),l.length=n->eC l<256 ^ n
 | 0,l,h=>by rw[eq_nil_of_length_eq_zero h];decide
 | n+1,l,h=>by
  have hne:l≠[]:=(by intro e;subst e;simp at h)
  rw[<-dropLast_concat_getLast hne,sJ];have h1:=qo n l.dropLast JK;have h2:(l.getLast hne).toNat<256:=(l.getLast hne).toNat_lt;rw[Nat.pow_succ];omega
variable {G:List (Nat×List Value)}
end
variable {v:Vl}
theorem sI:∀(b a:List UInt8),eC (a++b)=eC a*256 ^ b.length+eC b
 | [],a=>by simp[eC]
 | c::b,a=>by
  have h1:=sI b (a++[c]);have h2:=sI b [c];rw[append_assoc,singleton_append,sJ] at h1;have h3:eC (c::b)=c.toNat*256 ^ b.length+eC b:=by
   rw[singleton_append] at h2;rw[h2];have:eC [c]=c.toNat:=(by simp[eC])
   rw[this]
  rw[h1,h3,length_cons,Nat.pow_succ,Nat.add_mul,Nat.mul_assoc,Nat.mul_comm 256];omega
theorem DM{u:Nat}(h:u<18446744073709551616):eC (kj u)=u:=by
 exact z22
theorem Bp{s:ByteArray}(h:s.size=0):s=⟨#[]⟩:=zm (eq_nil_of_length_eq_zero (by rw[lA,h]))
theorem zk(h:bW v=0)(hk:v.k=0):v=⟨0,0,⟨#[]⟩⟩:=by
 unfold bW at h;rw[if_pos hk] at h;split at h
 ·cases h
 rename_i hn;exact JV
theorem D5(h:bW v=0)(hk:v.k=1):v.s=⟨#[]⟩:=by
 exact KT
theorem D6(h:bW v=0)(hk:v.k=2):v.s=⟨#[]⟩:=by
 exact KP
theorem D4(h:bW v=0)(hk:v.k=3):v.n=0:=by
 exact KR
open Go.Lib (compareBytes)
theorem IV{a b:UInt8}(h:a≠b):a.toNat≠b.toNat:=fun e=>h (UInt8.toNat_inj.1 e)
theorem lD{a b:UInt8}(x y:List UInt8)(h:a.toNat<b.toNat):compareBytes (a::x) (b::y) = -1:=by rw[qk,if_pos (oK.2 h)]
theorem lR(a:UInt8)(x y:List UInt8):compareBytes (a::x) (a::y)=compareBytes x y:=by
 exact JT
theorem ua:∀(p x y:List UInt8),compareBytes (p++x) (p++y)=compareBytes x y
 | [],_,_=>rfl
 | a::p,x,y=>by rw[cons_append,cons_append,lR,ua p x y]
theorem xy:∀(x y:List UInt8),compareBytes x y = -1\/compareBytes x y=0/\x=y\/compareBytes x y=1
 | [],[]=>.inr (.inl ⟨rfl,rfl⟩)
 | [],_::_=>.inl rfl
 | _::_,[]=>.inr (.inr rfl)
 | a::x,b::y=>by
  rw[qk];rcases Nat.lt_trichotomy a.toNat b.toNat with h|h|h
  ·exact .inl (if_pos (oK.2 h))
  ·have e:a=b:=UInt8.toNat_inj.1 h;subst e;rw[if_neg nh,if_neg nh];rcases xy x y with h|⟨h,e⟩|h
   ·exact .inl h
   ·exact .inr (.inl ⟨h,by rw[e]⟩)
   exact .inr (.inr h)
  exact .inr (.inr JI)
theorem tT(c:UInt8)(b:List UInt8):eC (c::b)=c.toNat*256 ^ b.length+eC b:=by
 exact KQ
theorem xQ:∀(l k:List UInt8) (x y:List UInt8),l.length=k.length->eC l<eC k->compareBytes (l++x) (k++y) = -1
 | [],[],_,_,_,h=>absurd h (Nat.lt_irrefl _)
 | [],_::_,_,_,h,_=>by simp at h
 | _::_,[],_,_,h,_=>by simp at h
 | a::l,b::k,x,y,hl,h=>by
  simp only[length_cons,Nat.add_right_cancel_iff] at hl;rw[tT,tT,hl] at h;have h1:=qo _ l hl;have h2:=qo _ k rfl;rw[cons_append,cons_append];rcases Nat.lt_trichotomy a.toNat b.toNat with e|e|e
  ·exact lD _ _ e
  ·have e':a=b:=UInt8.toNat_inj.1 e;subst e';rw[lR];exact xQ l k x y hl w4
  exfalso;have:(b.toNat+1)*256 ^ k.length<=a.toNat*256 ^ k.length:=Nat.mul_le_mul_right _ e;rw[Nat.succ_mul] at this;omega
theorem lZ(c:UInt8)(s:List UInt8):jx (c::s)=(if c=0 then [0,255] else [c])++jx s:=by unfold jx;rw[flatMap_cons]
theorem uh{c:UInt8}(h:¬c=0):0<c.toNat:=by
 exact z131
theorem xL:∀(s t x y:List UInt8),compareBytes s t = -1->compareBytes (jx s++([0,0]++x)) (jx t++([0,0]++y)) = -1
 | [],[],_,_,h=>by exact absurd h w7
 | _::_,[],_,_,h=>by exact absurd (show(1:Int) = -1 from h) w7
 | [],d::t,x,y,_=>by
  rw[lZ];by_cases hd:d=0
  ·rw[if_pos hd];show compareBytes (0::0::x) (0::255::(jx t++([0,0]++y))) = -1;rw[lR];exact lD _ _ w7
  rw[if_neg hd];exact lD (a:=0) _ _ (uh hd)
 | c::s,d::t,x,y,h=>by
  rcases Nat.lt_trichotomy c.toNat d.toNat with e|e|e
  ·have hd:¬d=0:=fun hd=>by subst hd;have:(0:UInt8).toNat=0:=rfl;omega
   rw[lZ,lZ,if_neg hd];by_cases hc:c=0
   ·rw[if_pos hc];exact lD (a:=0) _ _ (uh hd)
   rw[if_neg hc];exact lD _ _ e
  ·have e':c=d:=UInt8.toNat_inj.1 e;subst e';rw[lR] at h;rw[lZ,lZ,append_assoc,append_assoc,ua];exact xL s t x y h
  rw[qk,if_neg nh,if_pos (oK.2 e)] at h;exact absurd h w7
theorem Er{w:Vl}(hv:bW v=0)(ov:v.Ok)(hw:bW w=0)(ow:w.Ok)(x y:List UInt8)(h:fh v w = -1):compareBytes (jO v++x) (jO w++y) = -1:=by
 exact z6
theorem Hf(v w:Vl):fh v w = -1\/fh v w=0\/fh v w=1:=by
 exact KG
theorem BO{w:Vl}(hv:bW v=0)(ov:v.Ok)(hw:bW w=0)(ow:w.Ok)(x y:List UInt8)(h:fh v w≠0):compareBytes (jO v++x) (jO w++y)=fh v w:=by
 exact KN
end Cd
namespace Pa
open Go.Proofs.Tryz
open Go.RowKit V Pk Vl Go.Proofs.YtihmfhcjbmlnaaaGreatDoor.Nm Pc
variable {G:List (Nat×List Value)}
theorem Zp:∀x∈[⟨#[115]⟩,⟨#[105,100]⟩,⟨#[110]⟩],dH x=0:=by decide +kernel
end Pa
namespace Pa
open Go.Proofs.Tryz
open Go.RowKit V Pk Go.Proofs.YtihmfhcjbmlnaaaGreatDoor.Vl Go.Proofs.YtihmfhcjbmlnaaaGreatDoor.Nm Go.Proofs.YtihmfhcjbmlnaaaGreatDoor.Pc
section
variable {H:Type} {enc:TypeId×Value->H} {P:Program} {w:World} {base:Nat} {sp:Nat->Bool} {held:Bool}
end
theorem rd_phrase{H:Type}{enc:TypeId×Value->H}{w:World}{base E:Nat}{sp:Nat->Bool}{held:Bool}{v:Value}{d:DataW H}{p:List MemPlace}(hval:Value.okWide Tryz.prog w .any E 62 v)(h:DataW.Trod enc Tryz.prog w base sp held 62 v d p) :
  ∃t:Ph,cG w (fun _=>False) (.agg t.cs) v/\t.Ok/\True:=YS underlying62 Mc hval h
end Pa
namespace Ba
open Go.Proofs.Tryz
open Go.RowKit V Pk Tr Vl Go.Proofs.YtihmfhcjbmlnaaaGreatDoor.Nm Pc Cd Ex Tw
open Pa (aT aY dJ bZ cY cZ dA dO dr bN bJ Ph)
section
variable {G:List (Nat×List Value)} {m:Int}
theorem Ea{v:Vl}(h:bW v=0)(hk:v.k=2):fS [v]=(eU [v],0):=by
 exact KJ
theorem Ht{t:aA}{n:Nat}(g:dN t n){i:Int}(h:gw t i):∃(v:Vl) (r:List Vl),rowAt t i=v::r/\r.length=3/\v.k=2/\v.s.size=0/\v.Ok/\bW v=0/\de (rowAt t i)=eU [v]:=by
 obtain⟨h4,bf⟩:=gw.ok g h;obtain⟨h0,h1,h2⟩:=h;have hf:=(g.row _ h1 h2).1;rw[<-ju h1] at hf;match hr:rowAt t i,h4 with
 | v::r,h4 =>
  rw[hr] at hf bf;obtain⟨hv,hc⟩:=bf v mem_cons_self;have hk:v.k=2:=by
   unfold Pc.dV at hf;rw[if_neg wA,if_neg vg] at hf;unfold cx Pc.pH at hf;split at hf
   ·rename_i h1;exact absurd hf h1
   rename_i h1;have h1:=Decidable.not_not.1 h1;unfold Pc.mh at h1;rw[if_neg (by rw[hc];decide)] at h1;split at h1
   ·cases h1
   rename_i h3;exact Decidable.not_not.1 fun e=>h3 ⟨e,.inl rfl⟩
  refine⟨v,r,rfl,by simpa using h4,hk,?_,hv,hc,?_⟩
  ·unfold bW at hc;rw[if_neg w4,if_neg w4,if_pos hk] at hc;split at hc
   ·cases hc
   rename_i h3;exact Decidable.not_not.1 h3
  exact JU
theorem int_lt{v w:Vl}(hv:bW v=0)(ov:v.Ok)(kv:v.k=2)(E:v.s.size=0)(hw:bW w=0)(ow:w.Ok)(kw:w.k=2)(sw:w.s.size=0)(h:bI (eU [v]) (eU [w])):v.n<w.n:=by
 rcases Int.lt_trichotomy v.n w.n with q|q|q
 ·exact q
 ·have hs:v.s=w.s:=by
   have a1:v.s.data.size=0:=E;have a2:w.s.data.size=0:=sw;have e1:v.s=⟨v.s.data⟩:=rfl;have e2:w.s=⟨w.s.data⟩:=rfl;rw[e1,e2,Array.eq_empty_of_size_eq_zero a1,Array.eq_empty_of_size_eq_zero a2]
  have:v=w:=(by cases v;cases w;simp_all)
  rw[this] at h;exact absurd h (jK _)
 have hl:fh w v<0:=(D9 w v).2 (.inr ⟨by omega,.inl q⟩);have h3:=BO hw ow hv ov [] [] w4;rw[append_nil,append_nil] at h3;have h4:bI (eU [w]) (eU [v]):=by
  unfold bI eU;rw[flatMap_singleton,flatMap_singleton,h3];exact hl
 exact absurd (l5 h h4) (jK _)
end
section
def fst(r:List Vl):Vl:=r.getD 0 aX
theorem ak5{v w:Vl}(hv:bW v=0)(ov:v.Ok)(kv:v.k=2)(E:v.s.size=0)(hw:bW w=0)(ow:w.Ok)(kw:w.k=2)(sw:w.s.size=0):bI (eU [v]) (eU [w])↔v.n<w.n:=by
 refine⟨int_lt hv ov kv E hw ow kw sw,fun h=>?_⟩;have hl:fh v w<0:=(D9 v w).2 (.inr ⟨by omega,.inl h⟩);have h3:=BO hv ov hw ow [] [] w4;rw[append_nil,append_nil] at h3;unfold bI eU;rw[flatMap_singleton,flatMap_singleton,h3];exact hl
theorem WY{r:List Vl}(hf:Pc.dV cx r=0)(bf:∀v∈r,v.Ok):(fst r).k=2/\(fst r).s.size=0/\(fst r).Ok/\bW (fst r)=0/\de r=eU [fst r]/\r.length=4:=by
 have h4:=qu hf;have hz:=Nb hf;match r,h4 with
 | v::r,h4 =>
  have hv:=bf v mem_cons_self;have hc:=hz v mem_cons_self;have hk:v.k=2:=by
   unfold Pc.dV at hf;rw[if_neg wA,if_neg vg] at hf;unfold cx Pc.pH at hf;split at hf
   ·rename_i h1;exact absurd hf h1
   rename_i h1;have h1:=Decidable.not_not.1 h1;unfold Pc.mh at h1;rw[if_neg (by rw[hc];decide)] at h1;split at h1
   ·cases h1
   rename_i h3;exact Decidable.not_not.1 fun e=>h3 ⟨e,.inl rfl⟩
  refine⟨hk,?_,hv,hc,?_,h4⟩
  ·show v.s.size=0;unfold bW at hc;rw[if_neg w4,if_neg w4,if_pos hk] at hc;split at hc
   ·cases hc
   rename_i h3;exact Decidable.not_not.1 h3
  unfold de;rw[show(v::r).take 1=[v] from rfl,Ea hc hk];rfl
variable {G:List (Nat×List Value)} {m:Int}
def iR(w:List aQ):aT:={bN with kind:=4,table:=⟨#[116]⟩,ah:=w}
theorem ak6{l:List aA}(h:l.map aA.nm=bJ){s:aT}(hk:s.kind=4)(ht:s.table=⟨#[116]⟩)(hc:bZ s=0)(h0:0<l.length):kK l s=(if (oe l[0] s).2≠0 then ([],(([],0),(oe l[0] s).2)) else (l,((oe l[0] s).1,0)):List aA×((List (List Vl)×Int)×Int)):=by
 have hr:gz l s=(l,oe l[0] s):=by
  unfold gz;have ha:aC l s.table=0:=(by rw[ht];exact Cs h)
  have jm:l.getD (0:Int).toNat (iN s)=l[0]:=(by show l.getD 0 _=_;rw[getD_eq_getElem?_getD,getElem?_eq_getElem h0];rfl)
  rw[ha,if_neg w4,if_neg w7,if_neg w4,if_pos hk,jm]
 unfold kK;rw[if_neg (fun e=>e hc),if_neg w4,hr]
theorem D0(x:ByteArray)(w:List aQ):VP Tryz.prog G 15 [aG x,aj 5 cO w] (.agg [ae 4,aG x,aJ,aJ,aJ,aW false,aj 5 cO w,dj,aW false,ae (-1),dj,aJ]):=by
 exact z157
end
section
variable {t:aA} {n:Nat} {row:List Vl}
theorem WZ(g:dN t n){i:Int}(h:gw t i):Pc.dV cx (rowAt t i)=0/\∀v∈rowAt t i,v.Ok:=by
 obtain⟨h0,h1,h2⟩:=h;rw[ju h1];exact⟨(g.row _ h1 h2).1,(g.row _ h1 h2).2.1⟩
theorem ajz(g:dN t n){l:List Int}(hp:l.Pairwise (G0 t))(hi:∀i∈l,gw t i):EQ t false 0 l=l:=by
 refine(N8 ⟨Perm.refl _,hp.imp_of_mem fun {a b} ha hb h=>?_⟩).symm;obtain⟨f1,o1⟩:=WZ g (hi a ha);obtain⟨f2,o2⟩:=WZ g (hi b hb);obtain⟨a1,a2,a3,a4,a5,_⟩:=WY f1 o1;obtain⟨b1,b2,b3,b4,b5,_⟩:=WY f2 o2;have hk:bI (de (rowAt t a)) (de (rowAt t b)):=h;rw[a5,b5] at hk;have aa:=(ak5 a4 a3 a1 a2 b4 b3 b1 b2).1 hk;have hc:fh (cellAt t 0 a) (cellAt t 0 b)<0:=(D9 _ _).2 (.inr ⟨a1.trans b1.symm,.inl aa⟩);exact .inl (by show mK t false 0 a b<0;unfold mK;rw[if_neg w7];exact hc)
theorem ak7{r:List Vl}(h:r.length=4):(([0,1,2,3]:List Int).map fun c=>r.getD c.toNat aX)=r:=by
 match r,h with
 | [a,b,c,d],_=>rfl
theorem ak8(l:List Int):E0 (-1) l=l:=if_neg w4
theorem ajA(g:dN t n)(w:List aQ):oe t (iR w)=(if (av t w).2≠0 then (([],0),(av t w).2) else (((av t w).1.map (rowAt t),((av t w).1.length:Int)),0):(List (List Vl)×Int)×Int):=by
 unfold oe;have ho:rO t (iR w)=0:=if_pos (show((⟨#[]⟩:ByteArray).toList==(⟨#[]⟩:ByteArray).toList)=true from BEq.rfl);rw[if_neg (show ¬((iR w).names.any fun n=>decide (bE t.an n<0))=true from fun h=>by cases h),ho,if_neg (show ¬(0:Int)<0 by decide),show(iR w).ah=w from rfl];have hs:wo t (iR w)=(av t w).1:=by
  unfold wo;rw[ho];show E0 (-1) (EQ t false 0 (av t w).1)=_;rw[ak8,ajz g (Ih g w) (ug g w)]
 by_cases h:(av t w).2≠0
 ·rw[if_pos h,if_pos h]
 rw[if_neg h,if_neg h,if_neg (show ¬(iR w).count=true from fun h=>by cases h),hs];have ha:uP t (iR w).names=[0,1,2,3]:=by
  unfold uP;rw[if_pos (show(iR w).names.length=0 from rfl),g.an];rfl
 have hm:(av t w).1.map (Ap t (uP t (iR w).names))=(av t w).1.map (rowAt t):=by
  rw[ha];exact map_congr_left fun i hi=>ak7 (gw.ok g (ug g w i hi)).1
 rw[hm]
variable {G:List (Nat×List Value)} {m:Int}
open Pa (mA mF oR zD xJ uI gA q8) in
theorem Jd(k t a b:Int)(row:List Vl)(tz:Tw):q8 (mF k t a b row tz):=by
 exact z27
open Pa (mA mF oR) in
theorem OU(k t a b:Int)(row:List Vl)(tz wh:Tw)(bare:Bool):cY (mA k t a b row tz wh bare)/\(mA k t a b row tz wh bare).kind=1+cN k 6/\(mA k t a b row tz wh bare).table=oR t:=by
 have h:=Jd k t a b row tz;have hk:(mF k t a b row tz).kind=1+cN k 6/\(mF k t a b row tz).table=oR t:=by
  unfold mF;split
  ·rename_i h;exact⟨by rw[h],rfl⟩
  split
  ·rename_i h;exact⟨by rw[h],rfl⟩
  split
  ·rename_i h;exact⟨by rw[h],rfl⟩
  split
  ·rename_i h;exact⟨by rw[h],rfl⟩
  exact⟨rfl,rfl⟩
 unfold mA;split
 ·rename_i hq;exact⟨h.2 (iP 3 wh) (Pa.El _) (.inl hq.1),hk⟩
 exact⟨h.wL,hk⟩
theorem OV{k t a b:Int}{O U:Int}{Z:ByteArray}{E:List Tw}{y1 y2:Int}{y3:ByteArray}{I:List Tw}{bare:Bool}(h:Ph.Ok ⟨k,t,a,b,row,⟨O,U,Z,E⟩,⟨y1,y2,y3,I⟩,bare⟩) :
  VP Tryz.prog G 18 [.agg [ae k,ae t,ae a,ae b,aj 3 cV row,ae O,ae U,aG Z,.list 4 (Tw.mz E) E.length,ae y1,ae y2,aG y3,.list 4 (Tw.mz I) I.length,aW bare]] (.agg (aY (Pa.mA k t a b row ⟨O,U,Z,E⟩ ⟨y1,y2,y3,I⟩ bare))) :=
 (Pa.LI k t a b row O U Z E y1 y2 y3 I bare h.k.1 h.k.2 h.t.1 h.t.2 h.a.1 h.a.2 h.b.1 h.b.2 h.row h.bG h.wh).mono fun r S' ⟨s,h1,h2,_,_,_,h6⟩=>⟨by rw[h1,h6],h2⟩
theorem OW{k t a b:Int}{p q:Tw}{bare:Bool}(h:Ph.Ok ⟨k,t,a,b,row,p,q,bare⟩){k':Int}(h1:-9223372036854775808<=k')(h2:k'<=9223372036854775807):Ph.Ok ⟨k',0,a,b,row,p,q,bare⟩:=⟨⟨h1,h2⟩,⟨by show(-9223372036854775808:Int)<=0;decide,by show(0:Int)<=9223372036854775807;decide⟩,h.a,h.b,h.row,h.bG,h.wh⟩
theorem Q3:Pa.oR 0=⟨#[116]⟩:=by decide +kernel
end
theorem IS{s:aT}(hg:cY s)(hk:s.kind=4)(hn:s.names.length<=6)(hw:s.ah.length<=15):bZ s=0:=by
 exact Rw
theorem yY(w:List aQ)(hw:Pa.tL w):cY (iR w):=(Pa.DB (t:=⟨#[116]⟩) zR (N:=[]) ⟨Nat.zero_le _,fun _ h=>by cases h⟩ (c:=false) (fun h=>by cases h) (o:=⟨#[]⟩) (.inl rfl) (d:=false) (fun _=>rfl) (m:=-1) ⟨by decide,by decide⟩).2 w hw (.inl (by show(4:Int)<=4;decide))
theorem ak9{l:List aA}{a c:Nat}(gn:mZ l a c)(h:l.map aA.nm=bJ)(h0:0<l.length){w:List aQ}(hw:Pa.tL w)(hl:w.length<=15) :
  kK l (iR w)=(if (av l[0] w).2≠0 then ([],(([],0),(av l[0] w).2)) else (l,(((av l[0] w).1.map (rowAt l[0]),((av l[0] w).1.length:Int)),0)):List aA×((List (List Vl)×Int)×Int)):=by
 have g:=gn.g.tb _ (getElem_mem h0);rw[ak6 h rfl rfl (IS (yY w hw) rfl (Nat.zero_le _) hl) h0,ajA g];by_cases he:(av l[0] w).2≠0
 ·rw[if_pos he,if_pos he,if_pos he]
 rw[if_neg he,if_neg (fun e=>e rfl),if_neg he]
end Ba
namespace Ex
open Go.Proofs.Tryz
open Go.RowKit V Pk Vl Go.Proofs.YtihmfhcjbmlnaaaGreatDoor.Nm Pc Cd
open Go.Lib (compareBytes)
def bY(x:Int):List UInt8:=eU [dz x]
theorem BL(x:Int):fS [dz x]=(bY x,0):=by
 exact KL
theorem pu(x:Int):(bY x).length=9:=by unfold bY eU jO qA;simp[dz,kj]
end Ex
namespace Ba
open Go.Proofs.Tryz
open Go.RowKit V Pk Tr Vl Go.Proofs.YtihmfhcjbmlnaaaGreatDoor.Nm Pc Cd Ex Tw
open Pa (aT aY dJ bZ cY cZ dA dO dr bN bJ Ph)
open Go.Lib (compareBytes)
variable {t:aA} {x:ByteArray}
def eu(r:List Vl):Int:=(r.getD 0 aX).n
theorem IT{v:Vl}(hk:v.k=2)(hs:v.s.size=0):v=dz v.n:=by
 exact JS
theorem qR{n:Nat}(g:dN t n){x:K×Int}(hx:x∈er t.ix):x.1=bY (eu (rowAt t x.2))/\(rowAt t x.2).getD 0 aX=dz (eu (rowAt t x.2))/\(rowAt t x.2).length=4/\(dz (eu (rowAt t x.2))).Ok:=by
 exact KF
def l7(l:List bq)(x:ByteArray):Int:=match l.find? (fun n=>n.th.toList==x.toList) with
 | some n=>n.m
 | none=>0
theorem VB{l:List bq}{i:Nat}(h:i<l.length)(h0:∀n∈l.take i,(n.th.toList==x.toList)=false)(hx:(l[i].th.toList==x.toList)=true):l7 l x=l[i].m:=by
 exact z99
theorem Us{l:List bq}(h0:∀n∈l,(n.th.toList==x.toList)=false):l7 l x=0:=by
 unfold l7;rw[HH h0]
theorem vQ(d:bq)(l:List bq)(x:ByteArray):l7 (d::l) x=if d.th=x then d.m else l7 l x:=by
 exact z109
theorem D2{m:Int}{x:ByteArray}:∀{l:List bq},(∀d∈l,d.m=m)->(∃d∈l,d.th=x)->l7 l x=m
 | [],_,⟨_,hd,_⟩=>by cases hd
 | d::l,h,⟨e,he,hx⟩=>by
  rw[vQ];by_cases q:d.th=x
  ·rw[if_pos q];exact h d mem_cons_self
  rw[if_neg q];rcases mem_cons.1 he with rfl|he
  ·exact absurd hx q
  exact D2 (fun d hd=>h d (mem_cons_of_mem _ hd)) ⟨e,he,hx⟩
theorem VA(nm:ByteArray)(k:K):(dI nm k).toList=107::(nm.toList++(58::k)):=by unfold dI;simp[ByteArray.toList_eq]
theorem Ns(nm:ByteArray):(tB nm).toList=116::nm.toList:=by unfold tB;simp[ByteArray.toList_eq]
theorem Nt(nm:ByteArray):(eB nm).toList=101::nm.toList:=by unfold eB;simp[ByteArray.toList_eq]
theorem MP:(⟨#[]⟩:ByteArray).toList=[]:=by rw[ByteArray.toList_eq]
theorem Jc(nm:ByteArray)(k:K):dI nm k≠tB nm/\dI nm k≠eB nm/\dI nm k≠⟨#[]⟩:=by
 exact aax
theorem ahO{m:Int}{n:Nat}(g:dN t n){w:List aQ}{r:List Vl}(hr:r∈(av t w).1.map (rowAt t))(m0 m1:Int):l7 (⟨⟨#[]⟩,m0⟩::⟨tB t.nm,m1⟩::jf t (eG t.an w).1.1 (eG t.an w).1.2 m) (dI t.nm (bY (eu r)))=m:=by
 obtain⟨i,hi,rfl⟩:=mem_map.1 hr;obtain⟨o1,o2,o3⟩:=Jc t.nm (bY (eu (rowAt t i)));rw[vQ,if_neg (fun e=>o3 e.symm),vQ,if_neg (fun e=>o1 e.symm)];have hs:∃x∈jF t.ix (eG t.an w).1.1 (eG t.an w).1.2,x.2=i:=by
  unfold av at hi;split at hi
  ·cases hi
  have:=(DX t w _ []).subset hi;rw[nil_append] at this;exact mem_map.1 this
 obtain⟨x,hx,rfl⟩:=hs;refine D2 (fun d hd=>?_) ⟨⟨dI t.nm x.1,m⟩,?_,?_⟩
 ·unfold jf at hd;rcases mem_append.1 hd with hd|hd
  ·obtain⟨y,_,rfl⟩:=mem_map.1 hd;rfl
  rw[mem_singleton] at hd;subst hd;unfold oN;split
  ·split<;>rfl
  rfl
 ·unfold jf;exact mem_append_left _ (mem_map_of_mem (f:=fun x:K×Int=>(⟨dI t.nm x.1,m⟩:bq)) hx)
 show dI t.nm x.1=_;rw[(qR g (BF x hx)).1]
theorem ahP(lo hi:K)(m:Int):∃L d,jf t lo hi m=L++[d]/\d.m=m:=by
 unfold jf;refine⟨_,_,rfl,?_⟩;split
 ·unfold oN;split<;>rfl
 rfl
theorem Aa{l:List aA}(h:l.map aA.nm=bJ)(h0:0<l.length):l[0].nm=⟨#[116]⟩:=by
 exact z119
end Ba
namespace Ba
open Go.Proofs.Tryz
open Go.RowKit V Pk Tr Vl Go.Proofs.YtihmfhcjbmlnaaaGreatDoor.Nm Pc Cd Ex Tw
open Pa (aT aY dJ bZ cY cZ dA dO dr bN bJ Ph)
variable {G:List (Nat×List Value)} {m:Int}
theorem O1(k:K):(⟨#[107,116,58]⟩:ByteArray)++⟨k.toArray⟩=dI ⟨#[116]⟩ k:=by
 exact P8
theorem sY:tB ⟨#[116]⟩=⟨#[116,116]⟩:=by decide +kernel
theorem Ep{r:List Vl}(h:0<r.length):(r[0]).n=eu r:=by unfold eu;rw[getD_eq_getElem?_getD,getElem?_eq_getElem h];rfl
theorem zb(hG:(2,[Value.int .i64 m])∈G)(n:Int)(hn:(dz n).Ok):VP Tryz.prog G 14 [ae n] (aG (dI ⟨#[116]⟩ (bY n))):=by
 exact Ry
theorem BN(l:List bq)(hl:l.length<=1000000)(x:ByteArray):VP Tryz.prog G 19 [aj 2 lp l,aG x] (ae (l7 l x)):=by
 exact aaU
theorem Nn{s:aT}(hg:cY s)(hc:bZ s≠0):bZ s=10:=by
 unfold bZ at hc |-;rw[if_neg (by have:=hg.2.1;have:=hg.2.2.1;omega),if_neg (fun e=>e hg.2.2.2.2)] at hc |-;split
 ·rfl
 rename_i h;rw[if_neg h] at hc;exact absurd rfl hc
theorem age{l:List aA}(h:l.map aA.nm=bJ)(h0:0<l.length){s:aT}(hg:cY s)(ht:s.table=⟨#[116]⟩)(k4:4<=s.kind):gE l s=([],10)\/gE l s=([⟨⟨#[]⟩,1⟩],0)\/gE l s=([⟨⟨#[]⟩,1⟩,⟨⟨#[116,116]⟩,(if s.kind=4 then 3 else 5)⟩],0)\/(∃m1,m1≠(if s.kind=4 then 3 else 5)/\gE l s=(⟨⟨#[]⟩,1⟩::⟨⟨#[116,116]⟩,m1⟩::jf l[0] (eG l[0].an s.ah).1.1 (eG l[0].an s.ah).1.2 (if s.kind=4 then 3 else 5),0)):=by
 have E:=hg.2.2.1;by_cases hc:bZ s=0
 ·have hn:=BM h h0 ht hc w4 E;by_cases hf:iy l[0] s=true
  ·rw[if_pos hf] at hn;exact .inr (.inl hn)
  rw[if_neg hf] at hn;unfold sX at hn;rw[if_neg w4,ht,sY] at hn;by_cases ha:rP l[0] s=true
  ·rw[if_pos ha] at hn;exact .inr (.inr (.inl hn))
  rw[if_neg ha] at hn;refine .inr (.inr (.inr ⟨_,?_,hn⟩));split<;>decide
 refine .inl ?_;unfold gE;rw[if_pos hc,Nn hg hc]
theorem ala{t:aA}{n:Nat}(g:dN t n){w:List aQ}:∀r∈(av t w).1.map (rowAt t),r.length=4/\(dz (eu r)).Ok:=fun r hr=>by
 obtain⟨i,hi,rfl⟩:=mem_map.1 hr;have he:=(ug g w i hi).jA g;exact⟨(qR g he).2.2.1,(qR g he).2.2.2⟩
theorem IE{A L:List bq}{d:bq}(e:L=A++[d])(h:L.length-1<L.length):L[L.length-1]=d:=by
 subst e;simp
theorem Nv(m1:Int)(L:List bq):l7 (⟨⟨#[]⟩,1⟩::⟨⟨#[116,116]⟩,m1⟩::L) ⟨#[116,116]⟩=m1:=by
 rw[vQ,if_neg (by show ¬(⟨#[]⟩:ByteArray)=⟨#[116,116]⟩;decide),vQ,if_pos rfl]
theorem alb(k t a b:Int)(row:List Vl)(tz wh:Tw)(bare:Bool):Pa.tL (Pa.mA k t a b row tz wh bare).ah/\(Pa.mA k t a b row tz wh bare).ah.length<=15:=by
 unfold Pa.mA;split
 ·exact⟨Pa.El wh,(Mn wh).2⟩
 have:=(Jd k t a b row tz).1;rw[this];exact⟨Pa.Yv,Nat.zero_le _⟩
theorem amx{j:Int}(h:0<=j/\j<3):cN (3+j) 6=3+j:=by
 have:j=0\/j=1\/j=2:=(by omega)
 rcases this with rfl|rfl|rfl<;>decide +kernel
theorem aeZ(hm:(3,marksC)∈G)(hw:(1,wordsC)∈G)(ht:(0,typesC)∈G)(hG:(2,[Value.int .i64 m])∈G)(ps:List Ph)(gv:∀p∈ps,p.Ok)(fC:ps.length<=maxLen)(p:Ph)(To:p.Ok):VP Tryz.prog G 8 [.list 14 (ps.flatMap Ph.cs) ps.length,.agg p.cs] (aW true):=by
 refine bA func8 rfl ntmps8 aO fun X0 w0 bz=>?_;have dy:=ee;obtain⟨k,t,pa,pb,row,⟨x1,x2,x3,Tp⟩,⟨y1,y2,y3,Ds⟩,bare⟩:=p;simp only[Ph.cs,Tw.cs,cons_append,nil_append];refine cq ?_;refine dm [_,_,_,_,_,_,_,_,_,_,_,_,_,_] (fun b3=>?_);refine ap 109 [0,3] ?_;refine az 1 ?_;refine eH au rfl rfl rfl call10 (zq hm hw ht hG ps gv fC) ⟨ot,trivial⟩ (fj _) ?_;rintro _ _ ⟨l,a,c,rfl,rfl,gn,Bf,U⟩;refine cD (ds:=[_]) au rfl rfl zeroValue25 rfl (fun b5=>?_);refine aN 0 [_] sizeOf25 ?_;refine ap 109 [3,5] ?_;refine cL ?_;refine cL ?_;have hU:=At U;have pi:0<l.length:=(by omega)
 have hg0:=gn.g.tb _ (getElem_mem pi);have Lo:=iK k (show(1:Int)<=3 by decide);have Le:=jU G k 3 To.k.1 To.k.2 w7;generalize cN k 3=j at Lo Le;obtain⟨Tq,nN,nO⟩:=OU (3+j) 0 pa pb row ⟨x1,x2,x3,Tp⟩ ⟨y1,y2,y3,Ds⟩ bare;rw[Q3] at nO;rw[amx Lo] at nN;obtain⟨Ts,AW⟩:=alb (3+j) 0 pa pb row ⟨x1,x2,x3,Tp⟩ ⟨y1,y2,y3,Ds⟩ bare;have ff:=OV (G:=G) (OW To (k':=3+j) w4 w4);generalize Pa.mA (3+j) 0 pa pb row ⟨x1,x2,x3,Tp⟩ ⟨y1,y2,y3,Ds⟩ bare=s at ff Tq nO nN Ts AW;have hn:=tX hm hw ht hG l gn.g s (cY.st Tq);have hd:=age U pi Tq nO w4;have hr:=VC.lK (ES hm hw ht hG gn Bf (s:=iR s.ah) (cY.st (yY _ Ts)) (by show ¬(4:Int)=2;decide) (fun _=>(show dH ⟨#[116]⟩=0 by decide +kernel)) (by show(4:Int)<=6;decide) (fun h=>by cases h)) (args':=[.agg [aj 5 cr (l)],.agg [ae 4,aG ⟨#[116]⟩,aJ,aJ,aJ,aW false,aj 5 cO s.ah,dj,aW false,ae (-1),dj,aJ]]) ⟨aH,kW ⟨aH,aH,bQ,bQ,bQ,aH,aH,aH,aH,aH,aH,bQ,trivial⟩,trivial⟩;have I:=ak9 gn U pi Ts AW;have C2:=fun (r:List Vl) (hr:r∈(av l[0] s.ah).1.map (rowAt l[0])) (m0 m1:Int)=>ahO (m:=(if s.kind=4 then 3 else 5)) hg0 (w:=s.ah) hr m0 m1;have sc:=ala hg0 (w:=s.ah);have yR:=Ej hg0 s.ah;rw[Aa U pi,sY] at C2;have hsf:=DO hg0.ix (eG l[0].an s.ah).1.1 (eG l[0].an s.ah).1.2
 have RP:(jf l[0] (eG l[0].an s.ah).1.1 (eG l[0].an s.ah).1.2 (if s.kind=4 then 3 else 5)).length<=16001:=(by unfold jf;rw[length_append,length_map,length_singleton];omega)
 obtain⟨LA,ld,Rq,Dn⟩:=ahP (t:=l[0]) (eG l[0].an s.ah).1.1 (eG l[0].an s.ah).1.2 (if s.kind=4 then 3 else 5);unfold qL at hr;generalize kK l (iR s.ah)=R at hr I;generalize gE l s=N at hn hd;obtain⟨ns,e⟩:=N;obtain⟨X,⟨rs,k1⟩,E⟩:=R;generalize jf l[0] (eG l[0].an s.ah).1.1 (eG l[0].an s.ah).1.2 (if s.kind=4 then 3 else 5)=SP at *;dsimp only at hn hr;unfold aY at ff hn;refine bM [3,5,19] ?_;refine bX ?_ ?_<;>intro aP bH
 ·exact absurd aP (by simp[hU] at aP)
 refine az 1 ?_;refine aN 1 [_,_,_,_,_,_,_,_,_,_,_,_,_,_] sizeOf3 ?_;refine ap 109 [3,5] ?_;refine az 2 ?_;refine dK call11 (Le) ?_;refine bS (eE (r:=.int .i64 (3+j)) rfl bP ot (mB (wrap_i64 w4 w4))) ?_;refine aF 1 ?_;refine aN 1 [_,_,_,_,_,_,_,_,_,_,_,_,_,_] sizeOf3 ?_;refine ap 109 [3,5] ?_;refine az 1 ?_;refine dK call18 (ff) ?_;refine cD (ds:=[_,_,_,_,_,_,_,_,_,_,_,_]) au rfl rfl zeroValue34 rfl (fun b6=>?_);refine aN 0 [_,_,_,_,_,_,_,_,_,_,_,_] sizeOf34 ?_;refine ap 109 [5,6] ?_;refine cW [5,6,7,8] (hn) ?_;refine cL ?_;refine dv_ 11 10 9 [6,7,8,9,10,40,41,42] ?_;refine cA (D0 ⟨#[116]⟩ s.ah) ?_;refine cA (hr) ?_;refine oD 4 ?_;refine rj ?_;refine rj ?_;refine kN ?_;refine⟨rfl,rfl,fun kr b9=>?_⟩;refine aN 1 [_] sizeOf25 ?_;refine aN 0 [_,_] sizeOf54 ?_;refine ap 109 [6,7,8,10,11] ?_;refine cL ?_;refine cL ?_;rcases hd with hq|hq|hq|⟨m1,tH,hq⟩
 ·obtain⟨rfl,rfl⟩:=Prod.mk.inj hq;exact J0
 ·obtain⟨rfl,rfl⟩:=Prod.mk.inj hq;rcases Bool.eq_false_or_eq_true (E != 0) with hb|hb
  ·exact J0
  refine bM [6,7,8,10,11,53] ?_;refine bX ?_ ?_<;>intro bg cM
  ·exact RA
  exact wJ
 ·obtain⟨rfl,rfl⟩:=Prod.mk.inj hq;have eY:2<=([(⟨⟨#[]⟩,1⟩:bq),⟨⟨#[116,116]⟩,(if s.kind=4 then 3 else 5)⟩]).length:=(by rw[length_cons,length_cons];omega)
  have f1:decide (((([(⟨⟨#[]⟩,1⟩:bq),⟨⟨#[116,116]⟩,(if s.kind=4 then 3 else 5)⟩]).length:Nat):Int)<2)=false:=decide_eq_false w4;rcases Bool.eq_false_or_eq_true (E != 0) with hb|hb
  ·exact J0
  have hE:E=0:=(by simpa using hb)
  by_cases O:(av l[0] s.ah).2≠0
  ·rw[if_pos O] at I;exact absurd (congrArg (fun x=>x.2.2) I).symm (by rw[hE];exact O)
  rw[if_neg O] at I;obtain rfl:rs=(av l[0] s.ah).1.map (rowAt l[0]):=congrArg (fun x=>x.2.1.1) I;generalize FN:(av l[0] s.ah).1.map (rowAt l[0])=rs at *;have ark:rs.length<=40:=(by rw[<-FN];(first|rw[length_map]|(unfold aj;rw[length_map]));exact yR)
  refine bM [6,7,8,10,11,53] ?_;refine bX ?_ ?_<;>intro bg cM
  ·exact absurd bg (by (first|(rw[f1] at bg;cases bg)|(simp at bg;omega)|omega))
  refine ay [6,7,10,12] ?_;refine ax [7,10,12,67] ?_ ?_<;>intro cl di
  ·have jS:¬s.kind=4:=(by simpa using cl)
   refine bM [7,10,12] ?_;refine cL ?_;refine cL ?_;have pN:(5:Int)=(if s.kind=4 then 3 else 5):=(by rw[if_neg jS])
   exact aaW
  have jS:s.kind=4:=(by simpa using cl)
  refine eI ?_;refine cL ?_;refine cL ?_;have pN:(3:Int)=(if s.kind=4 then 3 else 5):=(by rw[if_pos jS])
  exact aaW
 obtain⟨rfl,rfl⟩:=Prod.mk.inj hq;have eY:2<=(((⟨⟨#[]⟩,1⟩:bq)::⟨⟨#[116,116]⟩,m1⟩::SP)).length:=(by rw[length_cons,length_cons];omega)
 have f1:decide ((((((⟨⟨#[]⟩,1⟩:bq)::⟨⟨#[116,116]⟩,m1⟩::SP)).length:Nat):Int)<2)=false:=decide_eq_false w4;rcases Bool.eq_false_or_eq_true (E != 0) with hb|hb
 ·exact J0
 have hE:E=0:=(by simpa using hb)
 by_cases O:(av l[0] s.ah).2≠0
 ·rw[if_pos O] at I;exact absurd (congrArg (fun x=>x.2.2) I).symm (by rw[hE];exact O)
 rw[if_neg O] at I;obtain rfl:rs=(av l[0] s.ah).1.map (rowAt l[0]):=congrArg (fun x=>x.2.1.1) I;generalize FN:(av l[0] s.ah).1.map (rowAt l[0])=rs at *;have ark:rs.length<=40:=(by rw[<-FN];(first|rw[length_map]|(unfold aj;rw[length_map]));exact yR)
 refine bM [6,7,8,10,11,53] ?_;refine bX ?_ ?_<;>intro bg cM
 ·exact absurd bg (by (first|(rw[f1] at bg;cases bg)|(simp at bg;omega)|omega))
 refine ay [6,7,10,12] ?_;refine ax [7,10,12,67] ?_ ?_<;>intro cl di
 ·have jS:¬s.kind=4:=(by simpa using cl)
  refine bM [7,10,12] ?_;refine cL ?_;refine cL ?_;have pN:(5:Int)=(if s.kind=4 then 3 else 5):=(by rw[if_neg jS])
  have nq:=BN (G:=G) ((⟨⟨#[]⟩,1⟩:bq)::⟨⟨#[116,116]⟩,m1⟩::SP) PW ⟨#[116,116]⟩;rw[Nv] at nq;rw[<-pN] at tH Dn;have gp:((⟨⟨#[]⟩,1⟩:bq)::⟨⟨#[116,116]⟩,m1⟩::SP).length-1<((⟨⟨#[]⟩,1⟩:bq)::⟨⟨#[116,116]⟩,m1⟩::SP).length:=(by omega)
  have hxb:((⟨⟨#[]⟩,1⟩:bq)::⟨⟨#[116,116]⟩,m1⟩::SP).length<=16003:=(by rw[length_cons,length_cons];omega)
  have Z:(((⟨⟨#[]⟩,1⟩:bq)::⟨⟨#[116,116]⟩,m1⟩::SP)[((⟨⟨#[]⟩,1⟩:bq)::⟨⟨#[116,116]⟩,m1⟩::SP).length-1]'gp).m=5:=(by rw[IE (A:=(⟨⟨#[]⟩,1⟩:bq)::⟨⟨#[116,116]⟩,m1⟩::LA) (d:=ld) (by rw[Rq];rfl) gp];exact Dn)
  have f9:decide (((((⟨⟨#[]⟩,1⟩:bq)::⟨⟨#[116,116]⟩,m1⟩::SP).length:Nat):Int)>2)=true:=decide_eq_true Z5;have f8:((((⟨⟨#[]⟩,1⟩:bq)::⟨⟨#[116,116]⟩,m1⟩::SP)[((⟨⟨#[]⟩,1⟩:bq)::⟨⟨#[116,116]⟩,m1⟩::SP).length-1]'gp).m==5)=true:=(by rw[Z];rfl)
  refine fW [7,10,12,71] ?_;refine cA (nq) ?_;refine bB ?_;refine bX ?_ ?_<;>intro da eP
  ·exact absurd da (by (intro h9;exact tH (by simpa using h9)))
  refine ay [7,10,12,13] ?_;refine eZ [7,10,12] (fun aU j4 (i:Nat) aE=>(i<=rs.length)/\aE=(⟨109,(13,ae (i:Nat))::aU,j4⟩:St)) (fun (i:Nat)=>rs.length-i) 0 ⟨(Nat.zero_le _),rfl⟩ ?_;rintro i _ ⟨hi,rfl⟩;refine ax [7,10,12,13,79] ?_ ?_<;>intro eo fR
  ·exact z43
  refine cJ [4] ?_;refine aM 7 ?_ (h:=w59);refine bB ?_;refine eD [] ?_;refine⟨?_,rfl⟩;first|rfl|exact congrArg (fun b=>D.v (.bool b)) hb|exact congrArg (fun b=>D.v (.bool b)) f8
 have jS:s.kind=4:=(by simpa using cl)
 refine eI ?_;refine cL ?_;refine cL ?_;have pN:(3:Int)=(if s.kind=4 then 3 else 5):=(by rw[if_pos jS])
 have nq:=BN (G:=G) ((⟨⟨#[]⟩,1⟩:bq)::⟨⟨#[116,116]⟩,m1⟩::SP) PW ⟨#[116,116]⟩;rw[Nv] at nq;rw[<-pN] at tH Dn;have gp:((⟨⟨#[]⟩,1⟩:bq)::⟨⟨#[116,116]⟩,m1⟩::SP).length-1<((⟨⟨#[]⟩,1⟩:bq)::⟨⟨#[116,116]⟩,m1⟩::SP).length:=(by omega)
 have hxb:((⟨⟨#[]⟩,1⟩:bq)::⟨⟨#[116,116]⟩,m1⟩::SP).length<=16003:=(by rw[length_cons,length_cons];omega)
 have Z:(((⟨⟨#[]⟩,1⟩:bq)::⟨⟨#[116,116]⟩,m1⟩::SP)[((⟨⟨#[]⟩,1⟩:bq)::⟨⟨#[116,116]⟩,m1⟩::SP).length-1]'gp).m=3:=(by rw[IE (A:=(⟨⟨#[]⟩,1⟩:bq)::⟨⟨#[116,116]⟩,m1⟩::LA) (d:=ld) (by rw[Rq];rfl) gp];exact Dn)
 have f9:decide (((((⟨⟨#[]⟩,1⟩:bq)::⟨⟨#[116,116]⟩,m1⟩::SP).length:Nat):Int)>2)=true:=decide_eq_true Z5;have f8:((((⟨⟨#[]⟩,1⟩:bq)::⟨⟨#[116,116]⟩,m1⟩::SP)[((⟨⟨#[]⟩,1⟩:bq)::⟨⟨#[116,116]⟩,m1⟩::SP).length-1]'gp).m==3)=true:=(by rw[Z];rfl)
 refine fW [7,10,12,71] ?_;refine cA (nq) ?_;refine bB ?_;refine bX ?_ ?_<;>intro da eP
 ·exact absurd da (by (intro h9;exact tH (by simpa using h9)))
 refine ay [7,10,12,13] ?_;refine eZ [7,10,12] (fun aU j4 (i:Nat) aE=>(i<=rs.length)/\aE=(⟨109,(13,ae (i:Nat))::aU,j4⟩:St)) (fun (i:Nat)=>rs.length-i) 0 ⟨(Nat.zero_le _),rfl⟩ ?_;rintro i _ ⟨hi,rfl⟩;refine ax [7,10,12,13,79] ?_ ?_<;>intro eo fR
 ·exact z43
 refine cJ [4] ?_;refine aM 7 ?_ (h:=w59);refine bB ?_;refine eD [] ?_;refine⟨?_,rfl⟩;first|rfl|exact congrArg (fun b=>D.v (.bool b)) hb|exact congrArg (fun b=>D.v (.bool b)) f8
theorem walkNeedsRead(l:List Ph)(v:Value)(ok:(∀x∈l,x.Ok)/\l.length<=maxLen)(p:Ph)(E:Value)(I:p.Ok)(w:World)(h1:MarksTab w)(h2:WordsTab w)(h3:TypesTab w){m:Int}(hm:Tab.lS w 2 [Value.int .i64 m])(hv:cG w (fun _=>False) (.list 14 (l.flatMap Ph.cs) l.length) v)(O:cG w (fun _=>False) (.agg p.cs) E):Calls Tryz.prog 8 #[v,E] w fun e w'=>e = .returned (.bool true)/\Below w.heap.size w w' :=
 (aeZ (G:=tM m) Bg Bh Bi Bj l ok.1 ok.2 p I).Ae (As h1 h2 h3 hm) (vs:=[v,E]) (cX.cons hv (cX.cons O (cX.vs w _ [])))
end Ba
end Go.Proofs.YtihmfhcjbmlnaaaGreatDoor
