/-
  NeedsInsert: walks and plain facts.
-/
import Derived.Test.YtihmfhcjbmlnaaaGreatDoorPNA9
set_option linter.unusedVariables false
set_option linter.unusedSimpArgs false
set_option maxRecDepth 100000
set_option maxHeartbeats 4000000
namespace Go.Proofs.YtihmfhcjbmlnaaaGreatDoor
open List
namespace Vl
open Go.Proofs.Tryz
open Go.RowKit V Pk
theorem Vl.ext'{x y:Vl}(h1:x.k=y.k)(h2:x.n=y.n)(h3:x.s=y.s):x=y:=by cases x;cases y;simp only at h1 h2 h3;subst h1 h2 h3;rfl
variable {G:List (Nat×List Value)}
end Vl
namespace Cd
open Go.Proofs.Tryz
open Go.RowKit V Pk Vl
section
def eC(l:List UInt8):Nat:=l.foldl (fun a c=>a*256+c.toNat) 0
theorem sJ(l:List UInt8)(c:UInt8):eC (l++[c])=eC l*256+c.toNat:=by unfold eC;rw[foldl_append];rfl
theorem qo:∀(n:Nat) (l:List UInt8),l.length=n->eC l<256 ^ n
 | 0,l,h=>by rw[eq_nil_of_length_eq_zero h];decide
 | n+1,l,h=>by
  have hne:l≠[]:=(by intro e;subst e;simp at h)
  rw[<-dropLast_concat_getLast hne,sJ];have h1:=qo n l.dropLast JK;have h2:(l.getLast hne).toNat<256:=(l.getLast hne).toNat_lt;rw[Nat.pow_succ];omega
variable {G:List (Nat×List Value)}
end
variable {v:Vl}
theorem sI:∀(b a:List UInt8),eC (a++b)=eC a*256 ^ b.length+eC b
 | [],a=>by simp[eC]
 | c::b,a=>by
  have h1:=sI b (a++[c]);have h2:=sI b [c];rw[append_assoc,singleton_append,sJ] at h1;have h3:eC (c::b)=c.toNat*256 ^ b.length+eC b:=by
   rw[singleton_append] at h2;rw[h2];have:eC [c]=c.toNat:=(by simp[eC])
   rw[this]
  rw[h1,h3,length_cons,Nat.pow_succ,Nat.add_mul,Nat.mul_assoc,Nat.mul_comm 256];omega
theorem DM{u:Nat}(h:u<18446744073709551616):eC (kj u)=u:=by
 exact z22
theorem Bp{s:ByteArray}(h:s.size=0):s=⟨#[]⟩:=zm (eq_nil_of_length_eq_zero (by rw[lA,h]))
theorem zk(h:bW v=0)(hk:v.k=0):v=⟨0,0,⟨#[]⟩⟩:=by
 unfold bW at h;rw[if_pos hk] at h;split at h
 ·cases h
 rename_i hn;exact JV
theorem D5(h:bW v=0)(hk:v.k=1):v.s=⟨#[]⟩:=by
 exact KT
theorem D6(h:bW v=0)(hk:v.k=2):v.s=⟨#[]⟩:=by
 exact KP
theorem D4(h:bW v=0)(hk:v.k=3):v.n=0:=by
 exact KR
open Go.Lib (compareBytes)
theorem IV{a b:UInt8}(h:a≠b):a.toNat≠b.toNat:=fun e=>h (UInt8.toNat_inj.1 e)
theorem lD{a b:UInt8}(x y:List UInt8)(h:a.toNat<b.toNat):compareBytes (a::x) (b::y) = -1:=by rw[qk,if_pos (oK.2 h)]
theorem lR(a:UInt8)(x y:List UInt8):compareBytes (a::x) (a::y)=compareBytes x y:=by
 exact JT
theorem ua:∀(p x y:List UInt8),compareBytes (p++x) (p++y)=compareBytes x y
 | [],_,_=>rfl
 | a::p,x,y=>by rw[cons_append,cons_append,lR,ua p x y]
theorem xy:∀(x y:List UInt8),compareBytes x y = -1\/compareBytes x y=0/\x=y\/compareBytes x y=1
 | [],[]=>.inr (.inl ⟨rfl,rfl⟩)
 | [],_::_=>.inl rfl
 | _::_,[]=>.inr (.inr rfl)
 | a::x,b::y=>by
  rw[qk];rcases Nat.lt_trichotomy a.toNat b.toNat with h|h|h
  ·exact .inl (if_pos (oK.2 h))
  ·have e:a=b:=UInt8.toNat_inj.1 h;subst e;rw[if_neg nh,if_neg nh];rcases xy x y with h|⟨h,e⟩|h
   ·exact .inl h
   ·exact .inr (.inl ⟨h,by rw[e]⟩)
   exact .inr (.inr h)
  exact .inr (.inr JI)
theorem tT(c:UInt8)(b:List UInt8):eC (c::b)=c.toNat*256 ^ b.length+eC b:=by
 exact KQ
theorem xQ:∀(l k:List UInt8) (x y:List UInt8),l.length=k.length->eC l<eC k->compareBytes (l++x) (k++y) = -1
 | [],[],_,_,_,h=>absurd h (Nat.lt_irrefl _)
 | [],_::_,_,_,h,_=>by simp at h
 | _::_,[],_,_,h,_=>by simp at h
 | a::l,b::k,x,y,hl,h=>by
  simp only[length_cons,Nat.add_right_cancel_iff] at hl;rw[tT,tT,hl] at h;have h1:=qo _ l hl;have h2:=qo _ k rfl;rw[cons_append,cons_append];rcases Nat.lt_trichotomy a.toNat b.toNat with e|e|e
  ·exact lD _ _ e
  ·have e':a=b:=UInt8.toNat_inj.1 e;subst e';rw[lR];exact xQ l k x y hl w4
  exfalso;have:(b.toNat+1)*256 ^ k.length<=a.toNat*256 ^ k.length:=Nat.mul_le_mul_right _ e;rw[Nat.succ_mul] at this;omega
theorem lZ(c:UInt8)(s:List UInt8):jx (c::s)=(if c=0 then [0,255] else [c])++jx s:=by unfold jx;rw[flatMap_cons]
theorem uh{c:UInt8}(h:¬c=0):0<c.toNat:=by
 exact z131
theorem xL:∀(s t x y:List UInt8),compareBytes s t = -1->compareBytes (jx s++([0,0]++x)) (jx t++([0,0]++y)) = -1
 | [],[],_,_,h=>by exact absurd h w7
 | _::_,[],_,_,h=>by exact absurd (show(1:Int) = -1 from h) w7
 | [],d::t,x,y,_=>by
  rw[lZ];by_cases hd:d=0
  ·rw[if_pos hd];show compareBytes (0::0::x) (0::255::(jx t++([0,0]++y))) = -1;rw[lR];exact lD _ _ w7
  rw[if_neg hd];exact lD (a:=0) _ _ (uh hd)
 | c::s,d::t,x,y,h=>by
  rcases Nat.lt_trichotomy c.toNat d.toNat with e|e|e
  ·have hd:¬d=0:=fun hd=>by subst hd;have:(0:UInt8).toNat=0:=rfl;omega
   rw[lZ,lZ,if_neg hd];by_cases hc:c=0
   ·rw[if_pos hc];exact lD (a:=0) _ _ (uh hd)
   rw[if_neg hc];exact lD _ _ e
  ·have e':c=d:=UInt8.toNat_inj.1 e;subst e';rw[lR] at h;rw[lZ,lZ,append_assoc,append_assoc,ua];exact xL s t x y h
  rw[qk,if_neg nh,if_pos (oK.2 e)] at h;exact absurd h w7
theorem Er{w:Vl}(hv:bW v=0)(ov:v.Ok)(hw:bW w=0)(ow:w.Ok)(x y:List UInt8)(h:fh v w = -1):compareBytes (jO v++x) (jO w++y) = -1:=by
 exact z6
theorem Hf(v w:Vl):fh v w = -1\/fh v w=0\/fh v w=1:=by
 exact KG
theorem BO{w:Vl}(hv:bW v=0)(ov:v.Ok)(hw:bW w=0)(ow:w.Ok)(x y:List UInt8)(h:fh v w≠0):compareBytes (jO v++x) (jO w++y)=fh v w:=by
 exact KN
end Cd
namespace Pa
open Go.Proofs.Tryz
open Go.RowKit V Pk Vl Go.Proofs.YtihmfhcjbmlnaaaGreatDoor.Nm Pc
variable {G:List (Nat×List Value)}
theorem Og{s:aT}(h:bZ s=0):1<=s.kind/\s.kind<=9/\cZ s=0/\(qV s).length<=100:=by
 unfold bZ at h;split at h
 ·cases h
 split at h
 ·rename_i h2;exact absurd h h2
 split at h
 ·cases h
 rename_i h2 _;exact⟨by omega,by omega,by omega,by omega⟩
end Pa
namespace Ba
open Go.Proofs.Tryz
open Go.RowKit V Pk Tr Vl Go.Proofs.YtihmfhcjbmlnaaaGreatDoor.Nm Pc Cd Ex Tw
open Pa (aT aY)
variable {G:List (Nat×List Value)} {m:Int}
noncomputable def oM(l:List aA)(nm:ByteArray):List (List Vl)×Int:=if aC l nm<0 then ([],8) else ((er (l.getD (aC l nm).toNat ⟨nm,[],[],nc⟩).ix).map fun x=>rowAt (l.getD (aC l nm).toNat ⟨nm,[],[],nc⟩) x.2,0)
theorem LW:(Tryz.prog.info? 30).map (fun i=>(i.zero,i.size,i.bytes))=some (some (.slice none 0 0),1,24):=by kernel_rfl
theorem Em(hm:(3,marksC)∈G)(hw:(1,wordsC)∈G)(ht:(0,typesC)∈G)(hG:(2,[Value.int .i64 m])∈G)(l:List aA){n:Nat}(g:pY l n)(nm:ByteArray):VP Tryz.prog G 13 [.agg [aj 5 cr (l)],aG nm] (.dF [.list 1 ((oM l nm).1.flatMap eX) (oM l nm).1.length,ae (oM l nm).2]):=by
 exact z4
end Ba
namespace Ba
open Go.Proofs.Tryz
open Go.RowKit V Pk Tr Vl Go.Proofs.YtihmfhcjbmlnaaaGreatDoor.Nm Pc Cd Ex Tw
open Pa (aT aY dJ bZ cY cZ dA dO dr bN bJ Ph)
variable {G:List (Nat×List Value)} {m:Int}
def G4(x:ByteArray)(r:List Vl):aT:={bN with kind:=3,table:=x,row:=r}
theorem Ea{v:Vl}(h:bW v=0)(hk:v.k=2):fS [v]=(eU [v],0):=by
 exact KJ
theorem Ht{t:aA}{n:Nat}(g:dN t n){i:Int}(h:gw t i):∃(v:Vl) (r:List Vl),rowAt t i=v::r/\r.length=3/\v.k=2/\v.s.size=0/\v.Ok/\bW v=0/\de (rowAt t i)=eU [v]:=by
 obtain⟨h4,bf⟩:=gw.ok g h;obtain⟨h0,h1,h2⟩:=h;have hf:=(g.row _ h1 h2).1;rw[<-ju h1] at hf;match hr:rowAt t i,h4 with
 | v::r,h4 =>
  rw[hr] at hf bf;obtain⟨hv,hc⟩:=bf v mem_cons_self;have hk:v.k=2:=by
   unfold Pc.dV at hf;rw[if_neg wA,if_neg vg] at hf;unfold cx Pc.pH at hf;split at hf
   ·rename_i h1;exact absurd hf h1
   rename_i h1;have h1:=Decidable.not_not.1 h1;unfold Pc.mh at h1;rw[if_neg (by rw[hc];decide)] at h1;split at h1
   ·cases h1
   rename_i h3;exact Decidable.not_not.1 fun e=>h3 ⟨e,.inl rfl⟩
  refine⟨v,r,rfl,by simpa using h4,hk,?_,hv,hc,?_⟩
  ·unfold bW at hc;rw[if_neg w4,if_neg w4,if_pos hk] at hc;split at hc
   ·cases hc
   rename_i h3;exact Decidable.not_not.1 h3
  exact JU
noncomputable def iz(t:aA):List (List Vl):=(er t.ix).map fun x=>rowAt t x.2
theorem Ez{l:List aA}{nm:ByteArray}{i:Nat}(h:aC l nm=(i:Int))(hi:i<l.length):oM l nm=(iz l[i],0):=by
 exact z117
theorem DY{t:aA}{n:Nat}(g:dN t n):(iz t).length<=16000:=by
 exact Qb
end Ba
namespace Ex
open Go.Proofs.Tryz
open Go.RowKit V Pk Vl Go.Proofs.YtihmfhcjbmlnaaaGreatDoor.Nm Pc Cd
open Go.Lib (compareBytes)
def bY(x:Int):List UInt8:=eU [dz x]
theorem BL(x:Int):fS [dz x]=(bY x,0):=by
 exact KL
theorem pu(x:Int):(bY x).length=9:=by unfold bY eU jO qA;simp[dz,kj]
end Ex
namespace Ba
open Go.Proofs.Tryz
open Go.RowKit V Pk Tr Vl Go.Proofs.YtihmfhcjbmlnaaaGreatDoor.Nm Pc Cd Ex Tw
open Pa (aT aY dJ bZ cY cZ dA dO dr bN bJ Ph)
open Go.Lib (compareBytes)
variable {t:aA} {n:Nat}
def eu(r:List Vl):Int:=(r.getD 0 aX).n
theorem IT{v:Vl}(hk:v.k=2)(hs:v.s.size=0):v=dz v.n:=by
 exact JS
theorem qR(g:dN t n){x:K×Int}(hx:x∈er t.ix):x.1=bY (eu (rowAt t x.2))/\(rowAt t x.2).getD 0 aX=dz (eu (rowAt t x.2))/\(rowAt t x.2).length=4/\(dz (eu (rowAt t x.2))).Ok:=by
 exact KF
theorem uj{a b:Int}(ha:(dz a).Ok)(hb:(dz b).Ok)(h:a<b):bI (bY a) (bY b):=by
 exact RC
theorem Bo{α:Type}{p q:α->Bool}:∀{l:List α},(∀x∈l,p x=q x)->l.find? p=l.find? q
 | [],_=>rfl
 | a::l,h=>by rw[find?_cons,find?_cons,h a mem_cons_self,Bo fun x hx=>h x (mem_cons_of_mem _ hx)]
theorem Bn{α:Type}{p q:α->Bool}:∀{l:List α},(l.filter p).find? q=l.find? fun x=>p x&&q x
 | []=>rfl
 | a::l=>by cases hp:p a<;>simp[filter_cons,find?_cons,hp,Bn (l:=l)]
theorem Nq(g:dN t n){k:Int}(hk:(dz k).Ok):sR t.ix (dG t.ix) (bY k)=(er t.ix).find? (fun x=>decide (k<eu (rowAt t x.2))):=by
 exact z49
def ie(nm:ByteArray)(k:Int)(l:List (List Vl)):ByteArray:=match l.find? (fun r=>decide (k<eu r)) with
 | some r=>dI nm (bY (eu r))
 | none=>eB nm
theorem DA(nm:ByteArray)(k:Int)(r:List Vl)(l:List (List Vl)):ie nm k (r::l)=if k<eu r then dI nm (bY (eu r)) else ie nm k l:=by
 exact z138
theorem D7(g:dN t n){k:Int}(hk:(dz k).Ok)(m:Int):oN t (bY k) m=⟨ie t.nm k (iz t),m⟩:=by
 exact z53
theorem BI{r:List Vl}(h:r∈iz t):∃x∈er t.ix,rowAt t x.2=r:=mem_map.1 h
theorem Aa{l:List aA}(h:l.map aA.nm=bJ)(h0:0<l.length):l[0].nm=⟨#[116]⟩:=by
 exact z119
end Ba
namespace Ba
open Go.Proofs.Tryz
open Go.RowKit V Pk Tr Vl Go.Proofs.YtihmfhcjbmlnaaaGreatDoor.Nm Pc Cd Ex Tw
open Pa (aT aY dJ bZ cY cZ dA dO dr bN bJ Ph)
variable {G:List (Nat×List Value)} {m:Int}
variable {k:Int}
theorem x8(E I:ByteArray)(m1 O:Int):∀w,(Op.equalIn 10000 44 (.agg [.string E,.int .i64 m1].toArray) (.agg [.string I,.int .i64 O].toArray)).run Tryz.prog w = .ok (E.toList==I.toList&&m1==O) w:=fun w=>by
 have hS:Tryz.prog.underlying 44=some (.struct (Tryz.prog.fieldsOf 44)):=(by kernel_rfl)
 have hp:Tryz.prog.stoodInHeld 44=false:=(by kernel_rfl)
 rw[show(10000:Nat)=9999+1 from rfl,run_equalIn_agg w 9999 44 _ _ hS hp];have u:=underlying44;have U:=underlying3;have Z:=underlying9;have a3:=isAgg3;have a9:=isAgg9;have z3:=sizeOf3;have z9:=sizeOf9;simp only[Program.fieldsOf,u];go_simp
 by_cases h1:E.toList=I.toList<;>by_cases h2:m1=O<;>simp[h1,h2]
theorem u0(a:ByteArray)(p:Int):(a.toList==a.toList&&p==p)=true:=by simp
theorem O1(k:K):(⟨#[107,116,58]⟩:ByteArray)++⟨k.toArray⟩=dI ⟨#[116]⟩ k:=by
 exact P8
theorem sY:tB ⟨#[116]⟩=⟨#[116,116]⟩:=by decide +kernel
theorem PA:eB ⟨#[116]⟩=⟨#[101,116]⟩:=by decide +kernel
theorem OS(k:Int):ie ⟨#[116]⟩ k []=⟨#[101,116]⟩:=PA
theorem tU(h0:0<=k)(h1:k<14):(dz k).Ok:=ok_int ⟨by omega,by omega⟩
theorem DZ{t:aA}{n:Nat}(g:dN t n):∀r∈iz t,r.length=4/\(dz (eu r)).Ok:=fun r hr=>by
 obtain⟨x,hx,rfl⟩:=BI hr;obtain⟨_,_,h3,h4⟩:=qR g hx;exact⟨h3,h4⟩
theorem Ep{r:List Vl}(h:0<r.length):(r[0]).n=eu r:=by unfold eu;rw[getD_eq_getElem?_getD,getElem?_eq_getElem h];rfl
def p8(k:Int):aT:=G4 ⟨#[116]⟩ [dz k,aX,aX,aX]
theorem Ni:∀k:Nat,k<14->bZ (G4 ⟨#[116]⟩ [dz (k:Int),aX,aX,aX])=0/\Pc.dV cx [dz (k:Int),aX,aX,aX]=0:=by decide +kernel
theorem Ip(h0:0<=k)(h1:k<14):bZ (p8 k)=0/\Pc.dV cx [dz k,aX,aX,aX]=0:=by
 have:=Ni k.toNat w4;rw[Int.toNat_of_nonneg h0] at this;exact this
theorem Oh(h0:0<=k)(h1:k<14):uG (p8 k) :=
 B9 ⟨⟨Nat.zero_le _,by show 4<=6;decide,Nat.zero_le _,Nat.zero_le _,Nat.zero_le _⟩,by show(⟨#[116]⟩:ByteArray).size<=maxLen;decide,(fun _ h=>by cases h),(fun _ h=>by cases h),Nat.zero_le _,Nat.zero_le _,fun v hv=>by
  have hv:v∈[dz k,aX,aX,aX]:=hv;simp only[mem_cons,not_mem_nil,or_false] at hv;rcases hv with rfl|rfl|rfl|rfl
  ·exact⟨by show _<=k;omega,by show k<=_;omega⟩
  ·exact⟨by decide,by decide⟩
  ·exact⟨by decide,by decide⟩
  exact⟨by decide,by decide⟩,(fun _ h=>by cases h),(fun _ h=>by cases h)⟩ (by show(1:Int)<=3;decide) (by show(3:Int)<=6;decide) (Pa.Og (Ip h0 h1).1).2.2.1
theorem MK{l:List aA}{a c:Nat}(gn:mZ l a c)(h:l.map aA.nm=bJ)(h0:0<l.length)(k0:0<=k)(k1:k<14):gE l (p8 k)=([⟨⟨#[]⟩,1⟩,⟨⟨#[116,116]⟩,2⟩,⟨dI ⟨#[116]⟩ (bY k),5⟩,⟨ie ⟨#[116]⟩ k (iz l[0]),5⟩],0):=by
 exact z54
theorem zb(hG:(2,[Value.int .i64 m])∈G)(n:Int)(hn:(dz n).Ok):VP Tryz.prog G 14 [ae n] (aG (dI ⟨#[116]⟩ (bY n))):=by
 exact Ry
theorem aet(hm:(3,marksC)∈G)(hw:(1,wordsC)∈G)(ht:(0,typesC)∈G)(hG:(2,[Value.int .i64 m])∈G)(ps:List Ph)(gv:∀p∈ps,p.Ok)(fC:ps.length<=maxLen)(q:Int)(q1:-9223372036854775808<=q)(q2:q<=9223372036854775807):VP Tryz.prog G 4 [.list 14 (ps.flatMap Ph.cs) ps.length,ae q] (aW true):=by
 refine bA func4 rfl ntmps4 aO fun X0 w0 bz=>?_;have dy:=ee;have kb:=iK q (show(1:Int)<=14 by decide);have kp:=jU G q 14 q1 q2 w7;generalize cN q 14=kk at kb kp;obtain⟨k0,k1⟩:=kb;refine ay [0,1] ?_;refine az 1 ?_;refine eH au rfl rfl rfl call10 (zq hm hw ht hG ps gv fC) ⟨ot,trivial⟩ (fj _) ?_;rintro _ _ ⟨l,a,c,rfl,rfl,gn,Bf,E⟩;refine cD (ds:=[_]) au rfl rfl zeroValue25 rfl (fun b5=>?_);refine aN 0 [_] sizeOf25 ?_;refine ap 93 [1,5] ?_;refine cL ?_;have hU:=At E;have O:0<l.length:=(by omega)
 have hg0:=gn.g.tb _ (getElem_mem O);have I:=Em hm hw ht hG l gn.g ⟨#[116]⟩;rw[Ez (i:=0) (Cs E) O] at I;dsimp only at I;have yV:=DY hg0;have U:=DZ hg0;have dQ:=VC.lK (tX hm hw ht hG l gn.g (p8 kk) (Oh k0 k1)) (args':=[.agg [aj 5 cr (l)],.agg [ae 3,aG ⟨#[116]⟩,aJ,.list 3 ([dz kk,aX,aX,aX].flatMap cV) 4,aJ,aW false,aJ,dj,aW false,ae (-1),dj,aJ]]) ⟨aH,kW ⟨aH,aH,bQ,aH,bQ,aH,bQ,aH,aH,aH,aH,bQ,trivial⟩,trivial⟩;rw[MK gn E O k0 k1] at dQ;dsimp only at dQ;generalize iz l[0]=ir at I yV U dQ;refine fW [5,6] ?_;refine cA (kp) ?_;refine bB ?_;refine cW [5,6,7,8] (dQ) ?_;refine cW [6,7,8,9,10] (I) ?_;refine ay [6,7,8,9,10,11] ?_;refine ay [6,7,8,9,10,11,12] ?_;refine eZ [6,7,8,9,10] (fun aU j4 (aR:Nat×ByteArray) aE=>match aR with|(j,Z)=>(j<=ir.length)/\(Z=ie ⟨#[116]⟩ kk (ir.drop j))/\aE=(⟨93,(11,aG Z)::(12,ae (((j:Nat):Int)-1))::aU,j4⟩:St)) (fun (aR:Nat×ByteArray)=>match aR with|(j,Z)=>j) (ir.length,⟨#[101,116]⟩) ⟨(Nat.le_refl _),(by rw[drop_of_length_le (Nat.le_refl _),OS]),rfl⟩ ?_;rintro⟨j,Z⟩ _ ⟨hj,kM,rfl⟩;refine ax [6,7,8,9,10,11,12,38] ?_ ?_<;>intro aP bH
 ·have rh:1<=j:=(by omega)
  have aa:j-1<ir.length:=(by omega)
  obtain⟨FR,FT⟩:=U (ir[j-1]'aa) (getElem_mem aa);have yE:0<(ir[j-1]'aa).length:=(by omega)
  have hid:=Ep yE;have iG:ir.drop (j-1)=(ir[j-1]'aa)::ir.drop j:=(by rw[drop_eq_getElem_cons aa,show j-1+1=j by omega])
  have FU:=zb (G:=G) hG ((ir[j-1]'aa)[0]).n (by rw[hid];exact FT);refine cJ [6,7,8,9,10,11,12,49] ?_;refine aM 2 ?_ (h:=CV);refine aM 1 ?_ (h:=w9);refine bB ?_;refine bX ?_ ?_<;>intro bg cM
  ·refine fW [6,7,8,9,10,11,12] ?_;refine aM 2 ?_ (h:=CV);refine aM 1 ?_ (h:=w9);refine cA (FU) ?_;refine bB ?_;refine bM [6,7,8,9,10,11,12] ?_;refine⟨((j-1),(dI ⟨#[116]⟩ (bY ((ir[j-1]'aa)[0]).n))),_,cR,aL,w4,(by rw[iG,DA,if_pos w4,hid]),rfl⟩
  refine bM [6,7,8,9,10,11,12] ?_;refine⟨((j-1),Z),_,cR,aL,w4,P0,rfl⟩
 obtain rfl:j=0:=(by omega)
 rw[drop_zero] at kM;subst kM;have eY:1<[(⟨⟨#[]⟩,1⟩:bq),⟨⟨#[116,116]⟩,2⟩,⟨dI ⟨#[116]⟩ (bY kk),5⟩,⟨ie ⟨#[116]⟩ kk ir,5⟩].length:=(by show 1<4;decide)
 have mq:2<[(⟨⟨#[]⟩,1⟩:bq),⟨⟨#[116,116]⟩,2⟩,⟨dI ⟨#[116]⟩ (bY kk),5⟩,⟨ie ⟨#[116]⟩ kk ir,5⟩].length:=(by show 2<4;decide)
 have CX:3<[(⟨⟨#[]⟩,1⟩:bq),⟨⟨#[116,116]⟩,2⟩,⟨dI ⟨#[116]⟩ (bY kk),5⟩,⟨ie ⟨#[116]⟩ kk ir,5⟩].length:=(by show 3<4;decide)
 have f1:=u0 ⟨#[116,116]⟩ 2;have f2:=u0 (dI ⟨#[116]⟩ (bY kk)) 5;have f3:=u0 (ie ⟨#[116]⟩ kk ir) 5;have yL:=zb (G:=G) hG kk (tU k0 k1);refine cJ [4] ?_;refine aM 13 ?_ (h:=ZT);refine aM 2 ?_ (h:=by exact(Hr rfl ot ot eqGuardType44 (x8 ⟨#[116,116]⟩ ⟨#[116,116]⟩ 2 2)));refine aM 3 ?_ (h:=by exact(ny (mk:=Op.indexAddr 39) rfl ot bP (by first|exact qj runUnderlying39 sizeOf44 (j:=2) rfl mq|exact qp runUnderlying39 sizeOf44 (j:=2) rfl mq)));refine cA (yL) ?_;refine aM 1 ?_ (h:=by exact(Hr rfl ot ot eqGuardType44 (x8 (dI ⟨#[116]⟩ (bY kk)) (dI ⟨#[116]⟩ (bY kk)) 5 5)));refine aM 3 ?_ (h:=by exact(ny (mk:=Op.indexAddr 39) rfl ot bP (by first|exact qj runUnderlying39 sizeOf44 (j:=3) rfl CX|exact qp runUnderlying39 sizeOf44 (j:=3) rfl CX)));refine aM 3 ?_ (h:=by exact(Hr rfl ot ot eqGuardType44 (x8 (ie ⟨#[116]⟩ kk ir) (ie ⟨#[116]⟩ kk ir) 5 5)));refine bB ?_;refine eD [] ?_;exact⟨congrArg (fun b=>D.v (.bool b)) f3,rfl⟩
theorem walkNeedsInsert(l:List Ph)(v:Value)(ok:(∀x∈l,x.Ok)/\l.length<=maxLen)(q:Int)(E:(Lit.int .i64 q).wf=true)(w:World)(h1:MarksTab w)(h2:WordsTab w)(h3:TypesTab w){m:Int}(hm:Tab.lS w 2 [Value.int .i64 m])(hv:cG w (fun _=>False) (.list 14 (l.flatMap Ph.cs) l.length) v) :Calls Tryz.prog 4 #[v,.int .i64 q] w fun e w'=>e = .returned (.bool true)/\Below w.heap.size w w' :=
 (aet (G:=tM m) Bg Bh Bi Bj l ok.1 ok.2 q (qw E).1 (qw E).2).Ae (As h1 h2 h3 hm) (vs:=[v,_]) (cX.cons hv (cX.vs w _ [_]))
end Ba
end Go.Proofs.YtihmfhcjbmlnaaaGreatDoor
