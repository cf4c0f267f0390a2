/-
  What the proof of DeleteMet leans on: walks of the program's functions at the level of values, and plain facts of what they compute.
-/
import Derived.Test.YtkgmonfgofobaaaGreatDoorPGA8
set_option linter.unusedVariables false
set_option linter.unusedSimpArgs false
set_option maxRecDepth 100000
set_option maxHeartbeats 4000000
namespace Go.Proofs.YtkgmonfgofobaaaGreatDoor.Cd
open List
open Go.Proofs.Tryz
open Go.RowKit V Pk Vl
def gF(l:List UInt8):Nat:=l.foldl (fun a c=>a*256+c.toNat) 0
theorem za(l:List UInt8)(c:UInt8):gF (l++[c])=gF l*256+c.toNat:=by unfold gF;rw[foldl_append];rfl
theorem xq:∀(n:Nat) (l:List UInt8),l.length=n→gF l<256 ^ n
 | 0,l,h=>by rw[eq_nil_of_length_eq_zero h];decide
 | n+1,l,h=>by
  have hne:l≠[]:=(by intro e;subst e;simp at h)
  rw[←dropLast_concat_getLast hne,za];have h1:=xq n l.dropLast (by rw[length_dropLast,h];rfl);have h2:(l.getLast hne).toNat<256:=(l.getLast hne).toNat_lt;rw[Nat.pow_succ];omega
variable {G:List (Nat×List Value)}

end Go.Proofs.YtkgmonfgofobaaaGreatDoor.Cd
namespace Go.Proofs.YtkgmonfgofobaaaGreatDoor.Cd
open List
open Go.Proofs.Tryz
open Go.RowKit V Pk Vl
variable {v:Vl}
theorem y7:∀(b a:List UInt8),gF (a++b)=gF a*256 ^ b.length+gF b
 | [],a=>by simp[gF]
 | c::b,a=>by
  have h1:=y7 b (a++[c]);have h2:=y7 b [c];rw[append_assoc,singleton_append,za] at h1;have h3:gF (c::b)=c.toNat*256 ^ b.length+gF b:=by
   rw[singleton_append] at h2;rw[h2];have:gF [c]=c.toNat:=(by simp[gF])
   rw[this]
  rw[h1,h3,length_cons,Nat.pow_succ,Nat.add_mul,Nat.mul_assoc,Nat.mul_comm 256];omega
theorem JB{u:Nat}(h:u<18446744073709551616):gF (lM u)=u:=by
 exact XV
theorem BF{s:ByteArray}(h:s.size=0):s=⟨#[]⟩:=B9 (eq_nil_of_length_eq_zero (by rw[kJ,h]))
theorem B5(h:cg v=0)(hk:v.k=0):v=⟨0,0,⟨#[]⟩⟩:=by
 unfold cg at h;rw[if_pos hk] at h;split at h
 ·cases h
 rename_i hn;exact Vl.ext' hk (by show v.n=0;omega) (BF w4)
theorem Kk(h:cg v=0)(hk:v.k=1):v.s=⟨#[]⟩:=by
 exact Wu
theorem Kl(h:cg v=0)(hk:v.k=2):v.s=⟨#[]⟩:=by
 exact Wr
theorem Kj(h:cg v=0)(hk:v.k=3):v.n=0:=by
 exact Ws

open Go.Lib (compareBytes)
theorem LJ{a b:UInt8}(h:a≠b):a.toNat≠b.toNat:=fun e=>h (UInt8.toNat_inj.1 e)
theorem qa{a b:UInt8}(x y:List UInt8)(h:a.toNat<b.toNat):compareBytes (a::x) (b::y) = -1:=by rw[sL,if_pos (pV.2 h)]
theorem pu(a:UInt8)(x y:List UInt8):compareBytes (a::x) (a::y)=compareBytes x y:=by
 rw[sL,if_neg ni,if_neg ni]
theorem Cm:∀(p x y:List UInt8),compareBytes (p++x) (p++y)=compareBytes x y
 | [],_,_=>rfl
 | a::p,x,y=>by rw[cons_append,cons_append,pu,Cm p x y]
theorem Ft:∀(x y:List UInt8),compareBytes x y = -1∨compareBytes x y=0∧x=y∨compareBytes x y=1
 | [],[]=>.inr (.inl ⟨rfl,rfl⟩)
 | [],_::_=>.inl rfl
 | _::_,[]=>.inr (.inr rfl)
 | a::x,b::y=>by
  rw[sL];rcases Nat.lt_trichotomy a.toNat b.toNat with h|h|h
  ·exact .inl (if_pos (pV.2 h))
  ·have e:a=b:=UInt8.toNat_inj.1 h;subst e;rw[if_neg ni,if_neg ni];rcases Ft x y with h|⟨h,e⟩|h
   ·exact .inl h
   ·exact .inr (.inl ⟨h,by rw[e]⟩)
   exact .inr (.inr h)
  exact .inr (.inr (by rw[if_neg ni,if_pos (pV.2 h)]))
theorem BN(c:UInt8)(b:List UInt8):gF (c::b)=c.toNat*256 ^ b.length+gF b:=by
 exact z107
theorem Gy:∀(l k:List UInt8) (x y:List UInt8),l.length=k.length→gF l<gF k→compareBytes (l++x) (k++y) = -1
 | [],[],_,_,_,h=>absurd h (Nat.lt_irrefl _)
 | [],_::_,_,_,h,_=>by simp at h
 | _::_,[],_,_,h,_=>by simp at h
 | a::l,b::k,x,y,hl,h=>by
  simp only[length_cons,Nat.add_right_cancel_iff] at hl;rw[BN,BN,hl] at h;have h1:=xq _ l hl;have h2:=xq _ k rfl;rw[cons_append,cons_append];rcases Nat.lt_trichotomy a.toNat b.toNat with e|e|e
  ·exact qa _ _ e
  ·have e':a=b:=UInt8.toNat_inj.1 e;subst e';rw[pu];exact Gy l k x y hl w4
  exfalso;have:(b.toNat+1)*256 ^ k.length≤a.toNat*256 ^ k.length:=Nat.mul_le_mul_right _ e;rw[Nat.succ_mul] at this;omega
theorem rG(c:UInt8)(s:List UInt8):lI (c::s)=(if c=0 then [0,255] else [c])++lI s:=by unfold lI;rw[flatMap_cons]
theorem Cu{c:UInt8}(h:¬c=0):0<c.toNat:=by
 have:=LJ h;have e:(0:UInt8).toNat=0:=rfl;omega
theorem Gb:∀(s t x y:List UInt8),compareBytes s t = -1→compareBytes (lI s++([0,0]++x)) (lI t++([0,0]++y)) = -1
 | [],[],_,_,h=>by exact absurd h w7
 | _::_,[],_,_,h=>by exact absurd (show(1:Int) = -1 from h) w7
 | [],d::t,x,y,_=>by
  rw[rG];by_cases hd:d=0
  ·rw[if_pos hd];show compareBytes (0::0::x) (0::255::(lI t++([0,0]++y))) = -1;rw[pu];exact qa _ _ w7
  rw[if_neg hd];exact qa (a:=0) _ _ (Cu hd)
 | c::s,d::t,x,y,h=>by
  rcases Nat.lt_trichotomy c.toNat d.toNat with e|e|e
  ·have hd:¬d=0:=fun hd=>by subst hd;have:(0:UInt8).toNat=0:=rfl;omega
   rw[rG,rG,if_neg hd];by_cases hc:c=0
   ·rw[if_pos hc];exact qa (a:=0) _ _ (Cu hd)
   rw[if_neg hc];exact qa _ _ e
  ·have e':c=d:=UInt8.toNat_inj.1 e;subst e';rw[pu] at h;rw[rG,rG,append_assoc,append_assoc,Cm];exact Gb s t x y h
  rw[sL,if_neg ni,if_pos (pV.2 e)] at h;exact absurd h w7
theorem Lg{w:Vl}(hv:cg v=0)(ov:v.Ok)(hw:cg w=0)(ow:w.Ok)(x y:List UInt8)(h:fu v w = -1):compareBytes (nD v++x) (nD w++y) = -1:=by
 exact XL
theorem Qf(v w:Vl):fu v w = -1∨fu v w=0∨fu v w=1:=by
 exact Yg
theorem Km{w:Vl}(hv:cg v=0)(ov:v.Ok)(hw:cg w=0)(ow:w.Ok)(x y:List UInt8)(h:fu v w≠0):compareBytes (nD v++x) (nD w++y)=fu v w:=by
 exact Wo

end Go.Proofs.YtkgmonfgofobaaaGreatDoor.Cd
namespace Go.Proofs.YtkgmonfgofobaaaGreatDoor.Nm
open List
open Go.Proofs.Tryz
open Go.RowKit V Pk Vl
variable {G:List (Nat×List Value)}
theorem rd_twig{H:Type}{enc:TypeId×Value→H}{w:World}{base E:Nat}{sp:Nat→Bool}{held:Bool}{v:Value}{d:DataW H}{p:List MemPlace}(hval:Value.okWide Tryz.prog w .any E 54 v)(h:DataW.Trod enc Tryz.prog w base sp held 54 v d p) :
  ∃t:Tw,cn w (fun _=>False) (.agg t.cs) v∧t.Ok∧True:=ag4 underlying54 JO hval h

end Go.Proofs.YtkgmonfgofobaaaGreatDoor.Nm
namespace Go.Proofs.YtkgmonfgofobaaaGreatDoor.Ba
open List
open Go.Proofs.Tryz
open Go.RowKit V Pk Tr Vl Go.Proofs.YtkgmonfgofobaaaGreatDoor.Nm Pc Cd Ex Tw
open Pa (bA bg eI cX di dM ew eE dW dz bM Ph)
variable {G:List (Nat×List Value)} {m:Int}
theorem int_lt{v w:Vl}(hv:cg v=0)(ov:v.Ok)(kv:v.k=2)(sv:v.s.size=0)(hw:cg w=0)(ow:w.Ok)(kw:w.k=2)(sw:w.s.size=0)(h:bu (cY [v]) (cY [w])):v.n<w.n:=by
 exact z40

def oM(w:List aK):bA:={dz with kind:=4,table:=⟨#[116]⟩,aj:=w}
theorem agA{l:List az}(h:l.map az.nm=bM){s:bA}(hk:s.kind=4)(ht:s.table=⟨#[116]⟩)(hc:cX s=0)(h0:0<l.length):gA l s=(if (mX l[0] s).2≠0 then ([],(([],0),(mX l[0] s).2)) else (l,((mX l[0] s).1,0)):List az×((List (List Vl)×Int)×Int)):=by
 have hr:fp l s=(l,mX l[0] s):=by
  unfold fp;have ha:aU l s.table=0:=(by rw[ht];exact uy h)
  have ic:l.getD (0:Int).toNat (gM s)=l[0]:=(by show l.getD 0 _=_;rw[getD_eq_getElem?_getD,getElem?_eq_getElem h0];rfl)
  rw[ha,if_neg w4,if_neg w7,if_neg w4,if_pos hk,ic]
 unfold gA;rw[if_neg (fun e=>e hc),if_neg w4,hr]
theorem aeT(x:ByteArray)(w:List aK):VP Tryz.prog G 20 [aZ x,au 5 cO w] (.agg [ae 4,aZ x,bF,bF,bF,bG false,au 5 cO w,fj,bG false,ae (-1),fj,bF]):=by
 refine VC.body func20 rfl ntmps20 aQ fun X0 w0 bf=>?_;refine cf ?_;refine OD.alloc (ds:=[_,_,_,_,_,_,_,_,_,_,_,_]) ap rfl rfl zeroValue46 rfl (fun E=>?_);refine an 8 [0,1,4] ?_;refine aB 3 ?_;refine aO 0 [_,_,_,_,_,_,_,_,_,_,_,_] sizeOf46 ?_;refine an 8 [4] ?_;exact z46

end Go.Proofs.YtkgmonfgofobaaaGreatDoor.Ba
namespace Go.Proofs.YtkgmonfgofobaaaGreatDoor.Ba
open List
open Go.Proofs.Tryz
open Go.RowKit V Pk Tr Vl Go.Proofs.YtkgmonfgofobaaaGreatDoor.Nm Pc Cd Ex Tw
open Pa (bA bg eI cX di dM ew eE dW dz bM Ph)
variable {t:az} {n:Nat} {l:List Int}
theorem acY(g:cA t n){i:Int}(h:eo t i):dh (ng t i).ix=(dh t.ix).filter fun x=>decide (x.2≠i):=by
 obtain⟨d1,d2⟩:=VG g h;have dc:=h.gj g;have hr:(dh t.ix).Pairwise fun x y=>bu x.1 y.1:=zc g.ix.val;refine JD (zc d1.val) (hr.filter _) fun x=>?_;refine(d2 x).trans ?_;rw[mem_filter];refine⟨fun ⟨h1,h2⟩=>⟨h1,decide_eq_true fun e=>h2 ?_⟩,fun ⟨h1,h2⟩=>⟨h1,fun e=>of_decide_eq_true h2 ?_⟩⟩
 ·obtain⟨x0,x1,_,x3⟩:=g.gj x h1;rw[x3,←e,fV x1]
 have:=Ch g.ix h1 dc e;rw[this]
theorem aeU{i j:Int}(hi:0≤i)(hj:0≤j)(h:j≠i):rowAt (ng t i) j=rowAt t j:=by
 show(t.rows.set i.toNat []).getD j.toNat []=t.rows.getD j.toNat [];rw[getD_eq_getElem?_getD,getD_eq_getElem?_getD,getElem?_set_ne w4]
theorem RD{n:Nat}:∀{l:List Int} {t:az},cA t n→l.Nodup→(∀i∈l,eo t i)→dh (kx t l).ix=(dh t.ix).filter (fun x=>decide (x.2∉l))∧∀j,0≤j→j∉l→rowAt (kx t l) j=rowAt t j
 | [],t,g,_,_=>⟨by rw[kx];exact(filter_eq_self.2 fun x _=>decide_eq_true bj).symm,fun j _ _=>rfl⟩
 | i::r,t,g,hn,hi=>by
  rw[nodup_cons] at hn;have h1:=hi i mem_cons_self;obtain⟨e1,e2⟩:=RD (Ju g h1) hn.2 fun j hj=>K3 (hi j (mem_cons_of_mem _ hj)) (fun e=>hn.1 (e ▸ hj)) h1.1;rw[kx];refine⟨?_,fun j hj hm=>?_⟩
  ·rw[e1,acY g h1,filter_filter];refine filter_congr fun x _=>?_;by_cases a:x.2=i<;>by_cases b:x.2∈r<;>simp[a,b]
  rw[e2 j hj fun E=>hm (mem_cons_of_mem _ E),aeU h1.1 hj fun e=>hm (e ▸ mem_cons_self)]
theorem aeV(g:cA t n)(hn:l.Nodup)(hi:∀i∈l,eo t i):dB (kx t l)=((dh t.ix).filter (fun x=>decide (x.2∉l))).map fun x=>rowAt t x.2:=by
 obtain⟨e1,e2⟩:=RD g hn hi;unfold dB;rw[e1];refine map_congr_left fun x hx=>?_;obtain⟨h1,h2⟩:=mem_filter.1 hx;exact e2 _ (g.gj x h1).1 (of_decide_eq_true h2)

theorem F9{v w:Vl}(hv:cg v=0)(ov:v.Ok)(kv:v.k=2)(sv:v.s.size=0)(hw:cg w=0)(ow:w.Ok)(kw:w.k=2)(sw:w.s.size=0):bu (cY [v]) (cY [w])↔v.n<w.n:=by
 exact z76

theorem aeW(g:cA t n)(hp:l.Pairwise (qA t))(hi:∀i∈l,eo t i):CN t false 0 l=l:=by
 refine(K2 ⟨Perm.refl _,hp.imp_of_mem fun {a b} ha hb h=>?_⟩).symm;obtain⟨f1,o1⟩:=mr g (hi a ha);obtain⟨f2,o2⟩:=mr g (hi b hb);obtain⟨a1,a2,a3,a4,a5,_⟩:=oZ f1 o1;obtain⟨b1,b2,b3,b4,b5,_⟩:=oZ f2 o2;have hk:bu (bU (rowAt t a)) (bU (rowAt t b)):=h;rw[a5,b5] at hk;have aa:=(F9 a4 a3 a1 a2 b4 b3 b1 b2).1 hk;have hc:fu (cellAt t 0 a) (cellAt t 0 b)<0:=(FP _ _).2 (.inr ⟨a1.trans b1.symm,.inl aa⟩);exact .inl (by show lp t false 0 a b<0;unfold lp;rw[if_neg w7];exact hc)
theorem agB{r:List Vl}(h:r.length=4):(([0,1,2,3]:List Int).map fun c=>r.getD c.toNat bw)=r:=by
 match r,h with
 | [a,b,c,d],_=>rfl
theorem agC(l:List Int):vQ (-1) l=l:=if_neg w4
theorem aeX(g:cA t n)(w:List aK):mX t (oM w)=(if (aq t w).2≠0 then (([],0),(aq t w).2) else (((aq t w).1.map (rowAt t),((aq t w).1.length:Int)),0):(List (List Vl)×Int)×Int):=by
 unfold mX;have ho:rV t (oM w)=0:=if_pos (show((⟨#[]⟩:ByteArray).toList==(⟨#[]⟩:ByteArray).toList)=true from BEq.rfl);rw[if_neg (show ¬((oM w).names.any fun n=>decide (bC t.ay n<0))=true from fun h=>by cases h),ho,if_neg (show ¬(0:Int)<0 by decide),show(oM w).aj=w from rfl];have hs:uo t (oM w)=(aq t w).1:=by
  unfold uo;rw[ho];show vQ (-1) (CN t false 0 (aq t w).1)=_;rw[agC,aeW g (zu g w) (qP g w)]
 by_cases h:(aq t w).2≠0
 ·rw[if_pos h,if_pos h]
 rw[if_neg h,if_neg h,if_neg (show ¬(oM w).count=true from fun h=>by cases h),hs];have ha:sA t (oM w).names=[0,1,2,3]:=by
  unfold sA;rw[if_pos (show(oM w).names.length=0 from rfl),g.ay];rfl
 have hm:(aq t w).1.map (x8 t (sA t (oM w).names))=(aq t w).1.map (rowAt t):=by
  rw[ha];exact map_congr_left fun i hi=>agB (eo.ok g (qP g w i hi)).1
 rw[hm]

variable {G:List (Nat×List Value)} {m:Int}
theorem Cv{r:List Vl}(h:0<r.length):fst r=r[0]:=by unfold fst;rw[getD_eq_getElem?_getD,getElem?_eq_getElem h];rfl
theorem Kg(g:cA t n):∀r∈dB t,r.length≤1000000:=fun r hr=>by
 obtain⟨i,hi,rfl⟩:=mem_iff_getElem.1 hr;obtain⟨v,r,e,h,_⟩:=y9 g hi;rw[e,length_cons,h];decide

end Go.Proofs.YtkgmonfgofobaaaGreatDoor.Ba
namespace Go.Proofs.YtkgmonfgofobaaaGreatDoor.Ba
open List
open Go.Proofs.Tryz
open Go.RowKit V Pk Tr Vl Go.Proofs.YtkgmonfgofobaaaGreatDoor.Nm Pc Cd Ex Tw
open Pa (bA bg eI cX di dM ew eE dW dz bM Ph)
variable {l:List az} {a c n:Nat} {t:az}
theorem ahZ{s:bA}(hg:di s)(hk:s.kind=4)(hn:s.names.length≤6)(hw:s.aj.length≤15):cX s=0:=by
 unfold cX;rw[if_neg w4,if_neg (fun e=>e hg.2.2.2.2),if_neg];have h1:=Pa.BC s.aj;have h2:=Pa.Fp s.names s.names.length;unfold Pa.nU;rw[if_neg w4,if_neg w4,if_neg w4,if_pos hk];have h3:(Pa.vH s).length≤12:=by
  unfold Pa.vH;split
  ·decide
  split
  ·decide
  omega
 have h4:(Pa.x4 s).length≤4:=by
  unfold Pa.x4;split
  ·decide
  rw[length_append,length_map];split<;>simp
 have h5:(Pa.C5 s).length≤2:=by
  unfold Pa.C5;split<;>simp
 unfold Pa.Ah;simp only[length_append,length_map,length_cons,length_nil];omega
theorem RE(w:List aK)(hw:Pa.qE w):di (oM w):=(Pa.Qz (t:=⟨#[116]⟩) yl (N:=[]) ⟨Nat.zero_le _,fun _ h=>by cases h⟩ (c:=false) (fun h=>by cases h) (o:=⟨#[]⟩) (.inl rfl) (d:=false) (fun _=>rfl) (m:=-1) ⟨by decide,by decide⟩).2 w hw (.inl (by show(4:Int)≤4;decide))

theorem agD(E:jq l a c)(h:l.map az.nm=bM)(h0:0<l.length){w:List aK}(hw:Pa.qE w)(hl:w.length≤15) :
  gA l (oM w)=(if (aq l[0] w).2≠0 then ([],(([],0),(aq l[0] w).2)) else (l,(((aq l[0] w).1.map (rowAt l[0]),((aq l[0] w).1.length:Int)),0)):List az×((List (List Vl)×Int)×Int)):=by
 have g:=E.g.tb _ (getElem_mem h0);rw[agA h rfl rfl (ahZ (RE w hw) rfl (Nat.zero_le _) hl) h0,aeX g];by_cases he:(aq l[0] w).2≠0
 ·rw[if_pos he,if_pos he,if_pos he]
 rw[if_neg he,if_neg (fun e=>e rfl),if_neg he]
def qj(w:List aK):bA:={dz with kind:=6,table:=⟨#[116]⟩,aj:=w}
theorem VQ(w:List aK):(qj w).kind=6:=rfl
theorem Kh(w:List aK)(hw:Pa.qE w):di (qj w):=(Pa.QA (t:=⟨#[116]⟩) yl).2 w hw (.inl (by show(4:Int)≤6;decide))
theorem ah0{w:List aK}(hw:Pa.qE w)(hl:w.length≤15):cX (qj w)=0:=by
 have hg:=Kh w hw;unfold cX;rw[if_neg (by show ¬((6:Int)<1∨(6:Int)>9);decide),if_neg (fun e=>e hg.2.2.2.2),if_neg];have h1:=Pa.BC w;have hs:Pa.nU (qj w)=[⟨#[68,69,76,69,84,69]⟩,⟨#[70,82,79,77]⟩,⟨#[116]⟩].map Pa.bE++Pa.j6 w:=by
  unfold Pa.nU;rw[if_neg rW,if_neg rW,if_neg rW,if_neg rW,if_neg rW,if_pos (VQ w)];rfl
 rw[hs];simp only[length_append,length_map,length_cons,length_nil];omega
theorem agE(Z:jq l a c)(I:a+c≤30)(h:l.map az.nm=bM)(h0:0<l.length){w:List aK}(hw:Pa.qE w)(hl:w.length≤15) :
  gA l (qj w)=(if (aq l[0] w).2≠0 then ([],(([],0),(aq l[0] w).2)) else (l.set 0 (kx l[0] (aq l[0] w).1),(([],((aq l[0] w).1.length:Int)),0)):List az×((List (List Vl)×Int)×Int)) ∧
  ((aq l[0] w).2=0→∃a' O,jq (l.set 0 (kx l[0] (aq l[0] w).1)) a' O∧(l.set 0 (kx l[0] (aq l[0] w).1)).map az.nm=bM):=by
 have hg:=Kh w hw;have hc:=ah0 hw hl;have hr:fp l (qj w)=(l.set 0 (j4 l[0] w).1,(([],(j4 l[0] w).2.1),(j4 l[0] w).2.2)):=by
  unfold fp;have ha:aU l (qj w).table=0:=uy h;have ic:l.getD (0:Int).toNat (gM (qj w))=l[0]:=(by show l.getD 0 _=_;rw[getD_eq_getElem?_getD,getElem?_eq_getElem h0];rfl)
  rw[if_neg rW,ha,if_neg w4,if_neg rW,if_neg rW,if_neg rW,ic];rfl
 by_cases he:(aq l[0] w).2≠0
 ·have hm:j4 l[0] w=(l[0],(0:Int),(aq l[0] w).2):=(by unfold j4;rw[if_pos he])
  refine⟨?_,fun e=>absurd e he⟩;unfold gA;rw[if_neg (fun e=>e hc),if_neg rW,hr,hm,if_pos he,if_pos he]
 have hm:j4 l[0] w=(kx l[0] (aq l[0] w).1,((aq l[0] w).1.length:Int),(0:Int)):=(by unfold j4;rw[if_neg he])
 have U:(fp l (qj w)).2.2=0:=(by rw[hr,hm])
 refine⟨?_,fun _=>?_⟩
 ·unfold gA;rw[if_neg (fun e=>e hc),if_neg rW,hr,hm,if_neg (fun e=>e rfl),if_neg he]
 obtain⟨a',O,_,g',_,wz⟩:=zv Z I (di.st hg) (by show ¬(6:Int)=2;decide) (F8 hg) (fun e=>absurd e (by show ¬(6:Int)=1;decide)) U;have E:=wz (by show ¬(6:Int)=1;decide);rw[hr,hm] at g' E;exact⟨a',O,g',E.trans h⟩
theorem abo{l m:List Int}(h:l.Sublist m):m.Nodup→m.filter (fun i=>decide (i∈l))=l:=by
 induction h with
 | slnil=>intro _;rfl
 | @cons l m a h ih =>
  intro hn;rw[nodup_cons] at hn;rw[filter_cons,if_neg (by simp;exact fun e=>hn.1 (h.subset e)),ih hn.2]
 | @cons_cons l m a h ih =>
  intro hn;rw[nodup_cons] at hn;rw[filter_cons,if_pos bj];congr 1;refine(filter_congr fun x hx=>?_).trans (ih hn.2);have E:x≠a:=fun e=>hn.1 (e ▸ hx);simp[E]
theorem QB{α:Type}(p:α→Bool):∀l:List α,(l.filter p).length+(l.filter fun x=>!p x).length=l.length
 | []=>rfl
 | a::l=>by
  have:=QB p l;cases h:p a<;>simp[filter_cons,h]<;>omega
theorem agF(t:az)(w:List aK):(aq t w).1.Sublist (bZ t):=by
 unfold aq;split
 ·exact nil_sublist _
 refine(B0 t w _ []).trans ?_;rw[nil_append];unfold bZ oH vJ;refine Sublist.map _ ((takeWhile_sublist _).trans ?_);unfold mW dh;exact filter_sublist
theorem aeY(g:cA t n){i j:Int}(hi:eo t i)(hj:eo t j)(h:fst (rowAt t i)=fst (rowAt t j)):i=j:=by
 obtain⟨_,_,_,_,a5,_⟩:=oZ (mr g hi).1 (mr g hi).2;obtain⟨_,_,_,_,b5,_⟩:=oZ (mr g hj).1 (mr g hj).2;have hk:bU (rowAt t i)=bU (rowAt t j):=(by rw[a5,b5,h])
 have:=Ch g.ix (hi.gj g) (hj.gj g) hk;simp only[Prod.mk.injEq] at this;exact this.2
def sX(rs:List (List Vl))(r:List Vl):Bool:=rs.any fun q=>yL (fst q) (fst r)
theorem aeZ(g:cA t n){L:List Int}(hL:∀i∈L,eo t i){j:Int}(hj:eo t j):sX (L.map (rowAt t)) (rowAt t j)=decide (j∈L):=by
 unfold sX;rw[any_map];cases hd:decide (j∈L) with
 | true=>exact any_eq_true.2 ⟨j,of_decide_eq_true hd,KA.2 rfl⟩
 | false =>
  rw[any_eq_false];intro i hi h;have:=aeY g (hL i hi) hj (KA.1 h);exact absurd (this ▸ hi) (of_decide_eq_false hd)
theorem ae0(g:cA t n)(w:List aK):dB (kx t (aq t w).1)=(dB t).filter (fun r=>!(sX ((aq t w).1.map (rowAt t)) r))∧(dB (kx t (aq t w).1)).length+(aq t w).1.length=(dB t).length:=by
 have hnd:=zh g w;have dc:=qP g w;have e1:dB (kx t (aq t w).1)=((bZ t).filter fun i=>decide (i∉(aq t w).1)).map (rowAt t):=by
  rw[aeV g hnd dc];unfold bZ;rw[filter_map,map_map];rfl
 refine⟨?_,?_⟩
 ·rw[e1,ph,filter_map];congr 1;refine filter_congr fun i hi=>?_;show _ = !(sX _ (rowAt t i));rw[aeZ g dc ((mS g i).1 hi)];by_cases h:i∈(aq t w).1<;>simp[h]
 rw[e1,ph,length_map,length_map];have h1:=abo (agF t w) (zb g);have h2:=QB (fun i=>decide (i∈(aq t w).1)) (bZ t);rw[h1] at h2;have h3:((bZ t).filter fun i=>decide (i∉(aq t w).1))=(bZ t).filter fun i=>!decide (i∈(aq t w).1):=filter_congr fun i _=>by by_cases h:i∈(aq t w).1<;>simp[h]
 rw[h3];omega
theorem TF{α:Type}{p:α→Bool}:∀{l:List α} {k:Nat} (h:k<l.length),p l[k]=true→∃h':((l.take k).filter p).length<(l.filter p).length,(l.filter p)[((l.take k).filter p).length]'h'=l[k]
 | a::l,0,h,hp=>by
  have uP:p a=true:=hp;refine⟨by rw[List.take_zero,filter_nil,filter_cons,if_pos uP];exact Nat.succ_pos _,?_⟩;simp[filter_cons,uP]
 | a::l,k+1,h,hp=>by
  have h2:k<l.length:=Nat.lt_of_succ_lt_succ h;obtain⟨h3,h4⟩:=TF (p:=p) h2 hp;by_cases ha:p a=true
  ·refine⟨by rw[take_succ_cons,filter_cons,if_pos ha,filter_cons,if_pos ha];exact Nat.succ_lt_succ h3,?_⟩;simp only[take_succ_cons,filter_cons,ha,if_true,length_cons,getElem_cons_succ];exact h4
  refine⟨by rw[take_succ_cons,filter_cons,if_neg ha,filter_cons,if_neg ha];exact h3,?_⟩;simp only[take_succ_cons,filter_cons,ha,getElem_cons_succ];exact h4

variable {G:List (Nat×List Value)} {m:Int}
def tu:bA:={dz with kind:=7}
theorem ah1(h:l.map az.nm=bM):aU l tu.table<0:=by
 unfold aU;rw[vf (k:=l.length) w4 (fun x hx=>?_)]
 ·decide
 rw[take_of_length_le (Nat.le_refl _)] at hx;have hx:x.nm∈bM:=h ▸ mem_map_of_mem hx;have key:∀y∈bM,(y.toList==tu.table.toList)=false:=(by decide +kernel)
 exact key _ hx
theorem U9(h:l.map az.nm=bM):gA l tu=([],(([],0),2))∧(fp l tu).2.2=8:=by
 have hr:fp l tu=(l,(([],0),8)):=by
  unfold fp;rw[if_neg (show ¬tu.kind=1 from by show ¬(7:Int)=1;decide),if_pos (ah1 h)]
 refine⟨?_,by rw[hr]⟩;unfold gA;rw[if_neg (show ¬cX tu≠0 from fun e=>e yl),if_pos (show 7≤tu.kind from by show(7:Int)≤7;decide)]
theorem ah2(hm:(3,marksC)∈G)(hw:(1,wordsC)∈G)(ht:(0,typesC)∈G)(hG:(2,[Value.int .i64 m])∈G)(I:jq l a c)(E:a+c≤30)(h:l.map az.nm=bM):VP Tryz.prog G 15 [.agg [au 5 cU (l)],.agg (bg tu)] (sD ([],(([],0),2))):=by
 have:=VJ hm hw ht hG l (B3 E) I.g tu ⟨⟨Nat.zero_le _,Nat.zero_le _,Nat.zero_le _,Nat.zero_le _,Nat.zero_le _⟩,Nat.zero_le _,(fun _ h=>by cases h),(fun _ h=>by cases h),Nat.zero_le _,Nat.zero_le _,(fun _ h=>by cases h),(fun _ h=>by cases h),(fun _ h=>by cases h)⟩ (by show ¬(7:Int)=2;decide) (fun _ h=>by cases h) (fun _ h=>by cases h) (fun _ h=>by cases h) (fun _ h=>by cases h) (fun _ h=>by cases h) (fun h0=>by rw[(U9 h).2] at h0;cases h0);rwa [(U9 h).1] at this
theorem ae1(O:jq l a c)(U:a+c≤30)(h:l.map az.nm=bM)(h0:0<l.length){w:List aK}(hw:Pa.qE w)(hl:w.length≤15) :
  ∃E:Int,(E≠0∧gA l (oM w)=([],(([],0),E))∧gA l (qj w)=([],(([],0),E)))∨(E=0∧∃(I:List (List Vl)) (t:az) (a' c':Nat),gA l (oM w)=(l,((I,(I.length:Int)),0))∧gA l (qj w)=(l.set 0 t,(([],(I.length:Int)),0))∧dB t=(dB l[0]).filter (fun r=>!(sX I r))∧(dB t).length+I.length=(dB l[0]).length∧(∀r∈I,r.length=4)∧jq (l.set 0 t) a' c'∧(l.set 0 t).map az.nm=bM):=by
 have g:=O.g.tb _ (getElem_mem h0);have h1:=agD O h h0 hw hl;obtain⟨h2,h3⟩:=agE O U h h0 hw hl;refine⟨(aq l[0] w).2,?_⟩;by_cases he:(aq l[0] w).2≠0
 ·rw[if_pos he] at h1 h2;exact .inl ⟨he,h1,h2⟩
 have hz:=Classical.not_not.1 he;rw[if_neg he] at h1 h2;obtain⟨a',c',g2,gJ⟩:=h3 hz;obtain⟨d1,d2⟩:=ae0 g w;refine .inr ⟨hz,(aq l[0] w).1.map (rowAt l[0]),kx l[0] (aq l[0] w).1,a',c',by rw[h1,length_map],by rw[h2,length_map],d1,by rw[length_map];exact d2,fun r hr=>?_,g2,gJ⟩;obtain⟨i,hi,rfl⟩:=mem_map.1 hr;exact(eo.ok g (qP g w i hi)).1
theorem TG{α:Type}{p:α→Bool}{l:List α}{i:Nat}(hi:i<l.length):((l.take (i+1)).filter p).length=((l.take i).filter p).length+(if p l[i]=true then 1 else 0):=by
 rw[take_succ_eq_append_getElem hi,filter_append,length_append];congr 1;by_cases h:p l[i]=true
 ·rw[if_pos h];simp[h]
 rw[if_neg h];simp[h]
theorem aac(hm:(3,marksC)∈G)(hw:(1,wordsC)∈G)(ht:(0,typesC)∈G)(hG:(2,[Value.int .i64 m])∈G)(ps:List Ph)(gL:∀p∈ps,p.Ok)(fD:ps.length≤maxLen)(t:Tw)(D4:t.Ok):VP Tryz.prog G 5 [.list 14 (ps.flatMap Ph.cs) ps.length,.agg t.cs] (bG true):=by
 refine VC.body func5 rfl ntmps5 aQ fun X0 w0 bf=>?_;have c8:=dV;obtain⟨tk,tn,ts,PN⟩:=t;have hO:=Lq (G:=G) _ D4;have PO:=Pa.K8 (Tw.mk tk tn ts PN);have hlen:=(Jb (Tw.mk tk tn ts PN)).2;generalize iF 3 (Tw.mk tk tn ts PN)=w at *;unfold Tw.cs at hO ⊢;refine cf ?_;refine OD.box (ds:=[_,_,_,_]) ap rfl rfl ot rfl rfl (fun b3=>?_);refine an 156 [0,3] ?_;refine aB 1 ?_;refine OD.call ap rfl rfl rfl call12 (K9 hm hw ht hG ps gL fD) ⟨ot,trivial⟩ (fg _) ?_;rintro _ _ ⟨l,a,c,rfl,rfl,gn,vc,Z⟩;refine OD.alloc (ds:=[_]) ap rfl rfl zeroValue25 rfl (fun b5=>?_);refine aO 0 [_] sizeOf25 ?_;refine an 156 [3,5] ?_;refine cL [5,6] (hO) ?_;refine CD.seq ?_;have iu:=Ns Z;have IC:0<l.length:=(by omega)
 have hg0:=gn.g.tb _ (getElem_mem IC);have ve:=zG hm hw ht hG l gn.g ⟨#[116]⟩;rw[zT (i:=0) (uy Z) IC] at ve;dsimp only at ve;have y5:=J9 hg0;have oT:=Kg hg0;have EP:∀i (h:i<(dB l[0]).length),(dB l[0])[i].length=4:=fun i h=>by obtain⟨v,r,e,h,_⟩:=y9 hg0 h;rw[e,length_cons,h]
 obtain⟨E,hd⟩:=ae1 gn vc Z IC PO hlen;have kE:=VC.uM (vL hm hw ht hG gn vc (s:=oM w) (di.st (RE w PO)) (by show ¬(4:Int)=2;decide) (fun _=>(show cy ⟨#[116]⟩=0 by decide +kernel)) (by show(4:Int)≤6;decide) (fun h=>by cases h)) (args':=[.agg [au 5 cU (l)],.agg [ae 4,aZ ⟨#[116]⟩,bF,bF,bF,bG false,au 5 cO w,fj,bG false,ae (-1),fj,bF]]) ⟨bN,sO ⟨bN,bN,eu,eu,eu,bN,bN,bN,bN,bN,bN,eu,trivial⟩,trivial⟩;have kS:=VC.uM (vL hm hw ht hG gn vc (s:=qj w) (di.st (Kh w PO)) (by show ¬(6:Int)=2;decide) (fun _=>(show cy ⟨#[116]⟩=0 by decide +kernel)) (by show(6:Int)≤6;decide) (fun h=>by cases h)) (args':=[.agg [au 5 cU (l)],.agg [ae 6,aZ ⟨#[116]⟩,bF,bF,bF,bG false,au 5 cO w,fj,bG false,ae (-1),fj,bF]]) ⟨bN,sO ⟨bN,bN,eu,eu,eu,bN,bN,bN,bN,bN,bN,eu,trivial⟩,trivial⟩;have PP:=VC.uM (ah2 hm hw ht hG gn vc Z) (args':=[.agg [au 5 cU (l)],.agg [ae 7,fj,bF,bF,bF,bG false,bF,fj,bG false,ae (-1),fj,bF]]) ⟨bN,sO ⟨bN,bN,eu,eu,eu,bN,eu,bN,bN,bN,bN,eu,trivial⟩,trivial⟩;unfold sD at kE kS PP;dsimp only at PP;generalize gA l (oM w)=R1 at kE hd;generalize gA l (qj w)=R2 at kS hd;obtain⟨X1,⟨U,k1⟩,E1⟩:=R1;obtain⟨X2,⟨rs2,k2⟩,E2⟩:=R2;dsimp only at kE kS
 obtain⟨I,XF⟩:∃I,I=dB l[0]:=⟨_,rfl⟩
 rw[←XF] at hd;simp only[←XF] at ve y5 oT EP;refine YY 10 9 8 [5,6,7,8,33,34,35] ?_;refine cN (aeT ⟨#[116]⟩ w) ?_;refine cN (kE) ?_;refine mI 4 ?_;refine pF ?_;refine pF ?_;refine jP ?_;refine⟨rfl,rfl,fun b8 b7=>?_⟩;refine aO 1 [_] sizeOf25 ?_;refine aO 0 [_,_] sizeOf39 ?_;refine an 156 [5,6,8,9] ?_;refine aB 3 ?_;refine ec call15 (kS) ?_;refine aH 4 ?_;refine OD.alloc (ds:=[_]) ap rfl rfl zeroValue25 rfl (fun kf=>?_);refine OD.alloc (ds:=[_,_]) ap rfl rfl zeroValue39 rfl (fun lE=>?_);refine aO 1 [_] sizeOf25 ?_;refine aO 0 [_,_] sizeOf39 ?_;refine an 156 [5,8,9,10,11,12] ?_;refine cL [5,8,9,10,11,12,13,14] (ve) ?_;refine af [5,8,9,10,11,12,13,14,50] ?_;refine av ?_ ?_<;>intro aL bB
 ·have Bv:E1≠0:=(by simpa using aL)
  obtain⟨hE,h1,h2⟩:=hd.resolve_right (fun ⟨_,U,t,a2,c2,h1,_⟩=>Bv (congrArg (fun x=>x.2.2) h1));simp only[Prod.mk.injEq] at h1 h2;obtain⟨rfl,⟨rfl,rfl⟩,hEa⟩:=h1;obtain⟨rfl,⟨rfl,rfl⟩,hEb⟩:=h2;have hEE:(E1==E2)=true:=(by rw[hEa,hEb];exact beq_self_eq_true _)
  refine af [4] ?_;refine aM [] ?_;refine⟨?_,rfl⟩;first|rfl|(simp;done)
 have Bv:E1=0:=(by simpa using aL)
 obtain⟨_,rsx,t,a2,c2,h1,h2,fA,lC,Pg,wI,Dv⟩:=hd.resolve_left (fun ⟨hE,h1,_⟩=>hE ((congrArg (fun x=>x.2.2) h1).symm.trans Bv));simp only[Prod.mk.injEq] at h1 h2;obtain⟨rfl,⟨rfl,rfl⟩,rfl⟩:=h1;obtain⟨rfl,⟨rfl,rfl⟩,rfl⟩:=h2;have lR:0<(X1.set 0 t).length:=(by rw[length_set];exact IC)
 have Hx:=zG hm hw ht hG _ wI.g ⟨#[116]⟩;rw[zT (i:=0) (uy Dv) lR,getElem_set_self] at Hx;dsimp only at Hx;generalize dB t=left at Hx fA lC;have Pu:(((U.length:Nat):Int)!=((U.length:Nat):Int))=false:=(by simp)
 have amx:((left.length:Nat):Int)=(I.length:Int)-(U.length:Int):=(by omega)
 refine cL [5,8,11,12,13,14,15,16] (Hx) ?_;refine aB 2 ?_;refine ec call15 (PP) ?_;refine aH 4 ?_;refine OD.alloc (ds:=[_]) ap rfl rfl zeroValue25 rfl (fun Zt=>?_);refine OD.alloc (ds:=[_,_]) ap rfl rfl zeroValue39 rfl (fun b18=>?_);refine aO 1 [_] sizeOf25 ?_;refine aO 0 [_,_] sizeOf39 ?_;refine an 156 [8,11,12,13,14,15,16,19] ?_;refine af [8,13,15,106] ?_;refine av ?_ ?_<;>intro aY cD
 ·exact absurd aY (by simp[amx] at aY)
 refine af [8,13,15,20] ?_;refine af [8,13,15,20,21] ?_;refine eG [8,13,15] (fun aS kV (O:Nat×Nat) aE=>match O with|(i,n)=>(i≤I.length)∧(n=((I.take i).filter (fun r=>!(sX U r))).length)∧(n≤i)∧aE=(⟨156,(20,ae (n:Nat))::(21,ae (i:Nat))::aS,kV⟩:St)) (fun (O:Nat×Nat)=>match O with|(i,n)=>I.length-i) (0,0) ⟨(Nat.zero_le _),rfl,(Nat.le_refl _),rfl⟩ ?_;rintro⟨i,n⟩ _ ⟨hi,hn,nk,rfl⟩;refine af [8,13,15,20,21,110] ?_;refine av ?_ ?_<;>intro cm cR
 ·have aa:i<I.length:=(by omega)
  have EQ:=EP i aa;have ID:0<(I[i]'aa).length:=(by omega)
  have hwf:=Cv ID;refine af [8,13,15,20,21,22] ?_;refine af [8,13,15,20,21,22,23] ?_;refine eG [8,13,15,20,21] (fun aS kV (O:Nat×Bool) aE=>match O with|(j,b)=>(j≤U.length)∧(b=(U.take j).any (fun q=>yL (fst q) (fst (I[i]'aa))))∧aE=(⟨156,(22,bG b)::(23,ae (j:Nat))::aS,kV⟩:St)) (fun (O:Nat×Bool)=>match O with|(j,b)=>U.length-j) (0,false) ⟨(Nat.zero_le _),rfl,rfl⟩ ?_;rintro⟨j,b⟩ _ ⟨hj,IE,rfl⟩;refine af [8,13,15,20,21,22,23,117] ?_;refine av ?_ ?_<;>intro da eA
  ·have jQ:j<U.length:=(by omega)
   have hq4:=Pg (U[j]'jQ) (getElem_mem jQ);have IF:0<(U[j]'jQ).length:=(by omega)
   have hqf:=Cv IF;refine CD.skip ?_;refine CD.seq ?_;refine CD.block ?_;rcases Bool.eq_false_or_eq_true b with hb|hb
   ·refine mE 17 [8,13,15,20,21,23,136] ?_;refine bH ?_;refine bp [8,13,15,20,21,22,23] ?_;refine cc [8,13,15,20,21,22,23] ?_;refine⟨((j+1),true),_,cr,aJ,w4,(by rw[take_succ_eq_append_getElem jQ,any_append,←IE,hb];rfl),rfl⟩
   refine mE 17 [8,13,15,20,21,23,136] ?_;refine aR 7 ?_ (h:=by exact(o9 (mk:=Op.indexAddr 43) rfl ot bP (by first|exact pU runUnderlying43 sizeOf33 (j:=0) rfl IF|exact pY runUnderlying43 sizeOf33 (j:=0) rfl IF)));refine aR 5 ?_ (h:=by exact(o9 (mk:=Op.indexAddr 43) rfl ot bP (by first|exact pU runUnderlying43 sizeOf33 (j:=0) rfl ID|exact pY runUnderlying43 sizeOf33 (j:=0) rfl ID)));refine aR 1 ?_ (h:=by exact(abv rfl ot ot eqGuardType33 (Go.Proofs.YtkgmonfgofobaaaGreatDoor.Vl.GK _ _)));refine bH ?_;refine bp [8,13,15,20,21,22,23] ?_;refine cc [8,13,15,20,21,22,23] ?_;refine⟨((j+1),(yL ((U[j]'jQ)[0]'IF) ((I[i]'aa)[0]'ID))),_,cr,aJ,w4,(by rw[take_succ_eq_append_getElem jQ,any_append,←IE,hb,any_cons,any_nil,Bool.or_false,Bool.false_or,hqf,hwf]),rfl⟩
  have hje:j=U.length:=(by omega)
  rw[take_of_length_le w4] at IE;have Oc:b=sX U (I[i]'aa):=IE;refine af [8,13,15,20,21,137] ?_;refine av ?_ ?_<;>intro dR fH
  ·have Bu:(!(sX U (I[i]'aa)))=false:=(by rw[←Oc,dR];rfl)
   refine cc [8,13,15,20,21] ?_;refine⟨((i+1),n),_,cr,aJ,w4,(by rw[TG aa,if_neg (by rw[Bu];decide)];exact hn),w4,rfl⟩
  have Bu:(!(sX U (I[i]'aa)))=true:=(by rw[←Oc,dR];rfl)
  obtain⟨amy,amz⟩:=TF (p:=fun r=>!(sX U r)) aa Bu;have pL:n<left.length:=(by rw[fA,hn];exact amy)
  have uQ:left[n]'pL=(I[i]'aa):=(by subst fA;subst hn;exact amz)
  have hq:=Ka (G:=G) (left[n]'pL) (I[i]'aa) (by rw[uQ,EQ];decide) (by rw[EQ];decide);rw[BR uQ] at hq;have u6:decide (((n:Nat):Int)≥((left.length:Nat):Int))=false:=decide_eq_false w4;refine cL [8,13,15,20,21,153] (hq) ?_;refine av ?_ ?_<;>intro fM gW
  ·exact absurd fM (by simp at fM)
  refine cc [8,13,15,20,21] ?_;refine cc [8,13,15,20,21] ?_;refine⟨((i+1),(n+1)),_,cr,aJ,w4,(by rw[TG aa,if_pos Bu,hn]),w4,rfl⟩
 refine af [4] ?_;exact Mq
theorem walkDeleteMet(l:List Ph)(v:Value)(ok:(∀x∈l,x.Ok)∧l.length≤maxLen)(t:Tw)(E:Value)(I:t.Ok)(w:World)(h1:MarksTab w)(h2:WordsTab w)(h3:TypesTab w){m:Int}(hm:Tab.l5 w 2 [Value.int .i64 m])(hv:cn w (fun _=>False) (.list 14 (l.flatMap Ph.cs) l.length) v)(O:cn w (fun _=>False) (.agg t.cs) E):Calls Tryz.prog 5 #[v,E] w fun e w'=>e = .returned (.bool true)∧Below w.heap.size w w' :=
 (aac (G:=wJ m) Pz PA PB PC l ok.1 ok.2 t I).Mz (Nr h1 h2 h3 hm) (vs:=[v,E]) (cG.cons hv (cG.cons O (cG.vs w _ [])))

end Go.Proofs.YtkgmonfgofobaaaGreatDoor.Ba
