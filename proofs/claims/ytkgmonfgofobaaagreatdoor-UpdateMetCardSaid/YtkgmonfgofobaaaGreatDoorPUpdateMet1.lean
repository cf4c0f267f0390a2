/-
  UpdateMet: walks and plain facts.
-/
import Derived.Test.YtkgmonfgofobaaaGreatDoorPGB8
set_option linter.unusedVariables false
set_option linter.unusedSimpArgs false
set_option maxRecDepth 100000
set_option maxHeartbeats 4000000
namespace Go.Proofs.YtkgmonfgofobaaaGreatDoor.Nm
open List
open Go.Proofs.Tryz
open Go.RowKit V Pk Vl
variable {G:List (Nat×List Value)}
theorem rd_twig{H:Type}{enc:TypeId×Value→H}{w:World}{base E:Nat}{sp:Nat→Bool}{held:Bool}{v:Value}{d:DataW H}{p:List MemPlace}(hval:Value.okWide Tryz.prog w .any E 54 v)(h:DataW.Trod enc Tryz.prog w base sp held 54 v d p) :
  ∃t:Tw,cg w (fun _=>False) (.agg t.cs) v∧t.Ok∧True:=agu underlying54 Je hval h

end Go.Proofs.YtkgmonfgofobaaaGreatDoor.Nm
namespace Go.Proofs.YtkgmonfgofobaaaGreatDoor.Ex
open List
open Go.Proofs.Tryz
open Go.RowKit V Pk Vl Go.Proofs.YtkgmonfgofobaaaGreatDoor.Nm Pc
theorem aiY:bz bY ⟨#[105,100]⟩=0:=by decide +kernel
theorem alZ:bz bY ⟨#[110]⟩=1:=by decide +kernel
theorem al0:bz bY ⟨#[115]⟩=2:=by decide +kernel
theorem al1:bz bY ⟨#[98]⟩=3:=by decide +kernel
theorem afW(j:Int):0≤bz bY (ko j):=by
 unfold ko;split
 ·rw[aiY];decide
 split
 ·rw[alZ];decide
 split
 ·rw[al0];decide
 rw[al1];decide
theorem aaU(j:Int):(ko j).size≤2:=by
 unfold ko;split
 ·decide
 split
 ·decide
 split<;>decide
theorem FI(n:Int)(s:ByteArray):(qO n s).Ok:=by
 have h1:=iX n (by decide:(1:Int)≤40);have h2:=iX (dI n 40-20) (by decide:(1:Int)≤2);have hc:∀x:ByteArray,(mX x 4).size≤4:=fun x=>by rw[Es];omega
 have hm:4≤maxLen:=(by decide)
 have E:∀v:Vl,(0≤v.k∧v.k≤3)→(-20≤v.n∧v.n≤20)→({v with s:=mX v.s 4}:Vl).Ok:=fun v hk hn=>⟨by show _≤v.k;omega,by show v.k≤_;omega,by show _≤v.n;omega,by show v.n≤_;omega,Nat.le_trans (hc _) hm⟩
 unfold qO;refine E _ ?_ ?_
 ·unfold ou bu;repeat' split
  all_goals (simp only[];omega)
 unfold ou bu;repeat' split
 all_goals (simp only[];omega)
theorem Se(l:List cx)(n:Int)(s:ByteArray):qM l (pW n s):=⟨Nat.zero_le _,FI n s,Be (Rf n s),by show(1:Int)≤1;decide,by show(1:Int)≤11;decide,fun h=>absurd h (by show ¬(1:Int)=2;decide)⟩
theorem Si(n:Int):qM bY (sE n):=⟨Nat.le_trans (aaU _) w8,rH,zz,by show(1:Int)≤2;decide,by show(2:Int)≤11;decide,fun _=>afW _⟩
theorem Qt(l:List cx){k:Int}(h1:3≤k)(h2:k≤11):qM l (lQ k):=⟨Nat.zero_le _,rH,zz,by show 1≤k;omega,h2,fun h=>absurd h (by show ¬k=2;omega)⟩
theorem Qu(k n:Int)(s:ByteArray):∀o∈kP k n s,qM bY o:=fun o ho=>by
 unfold kP at ho;split at ho<;>(rw[mem_singleton] at ho;subst ho)
 ·exact Si n
 exact Se _ n s
theorem JA:∀(r:Nat) (t:Tw),∀o∈bL r t,qM bY o
 | 0,.mk k n s ts=>Qu k n s
 | r+1,.mk k n s ts=>by
  have E:∀i:Nat,∀o∈gb r ts n s i,qM bY o:=fun i=>by
   unfold gb;split
   ·exact JA r _
   exact Qu _ _ _
  have hk:=iX k (by decide:(1:Int)≤11);intro o ho;rw[tw] at ho;split at ho
  ·rw[mem_singleton] at ho;subst ho;exact Se _ n s
  split at ho
  ·rw[mem_singleton] at ho;subst ho;exact Si n
  split at ho
  ·rcases mem_append.1 ho with ho|ho
   ·exact E 0 o ho
   rw[mem_singleton] at ho;subst ho;exact Qt _ w4 w4
  rcases mem_append.1 ho with ho|ho
  ·rcases mem_append.1 ho with ho|ho
   ·exact E 0 o ho
   exact E 1 o ho
  rw[mem_singleton] at ho;subst ho;exact Qt _ w4 w4

end Go.Proofs.YtkgmonfgofobaaaGreatDoor.Ex
namespace Go.Proofs.YtkgmonfgofobaaaGreatDoor.Ba
open List
open Go.Proofs.Tryz
open Go.RowKit V Pk Tr Vl Go.Proofs.YtkgmonfgofobaaaGreatDoor.Nm Pc Cd Ex Tw
open Pa (bJ bj eS dJ ec dS eC eP en dQ cj Ph)
variable {G:List (Nat×List Value)} {m:Int}
variable {t:aH} {n:Nat}
theorem acs(g:dB t n){i:Int}(h:eR t i):∃(v:Vl) (r:List Vl),rowAt t i=v::r∧r.length=3∧v.k=2∧v.s.size=0∧v.Ok∧cl v=0∧cH (rowAt t i)=fj [v]:=by
 obtain⟨h4,aV⟩:=eR.ok g h;obtain⟨h0,h1,h2⟩:=h;have hf:=(g.row _ h1 h2).1;rw[←iY h1] at hf;match hr:rowAt t i,h4 with
 | v::r,h4 =>
  rw[hr] at hf aV;obtain⟨hv,hc⟩:=aV v mem_cons_self;have hk:v.k=2:=by
   unfold Pc.dR at hf;rw[if_neg Aj,if_neg sX] at hf;unfold bY Pc.pc at hf;split at hf
   ·rename_i h1;exact absurd hf h1
   rename_i h1;have h1:=Decidable.not_not.1 h1;unfold Pc.lY at h1;rw[if_neg (by rw[hc];decide)] at h1;split at h1
   ·cases h1
   rename_i h3;exact Decidable.not_not.1 fun e=>h3 ⟨e,.inl rfl⟩
  refine⟨v,r,rfl,by simpa using h4,hk,?_,hv,hc,?_⟩
  ·unfold cl at hc;rw[if_neg w4,if_neg w4,if_pos hk] at hc;split at hc
   ·cases hc
   rename_i h3;exact Decidable.not_not.1 h3
  unfold cH;rw[show(v::r).take 1=[v] from rfl,Ul hc hk]
theorem afX(g:dB t n){i:Nat}(h:i<(jf t).length):∃h':i<(eu t.ix).length,(jf t)[i]=rowAt t (eu t.ix)[i].2∧eR t (eu t.ix)[i].2∧(eu t.ix)[i].1=cH (rowAt t (eu t.ix)[i].2):=by
 have h':i<(eu t.ix).length:=(by unfold jf at h;rwa [length_map] at h)
 obtain⟨h0,h1,h2,h3⟩:=g.gZ _ (getElem_mem h');exact⟨h',by show((eu t.ix).map fun x=>rowAt t x.2)[i]=_;exact getElem_map _,⟨h0,h1,h2⟩,by rw[iY h1];exact h3⟩
theorem aaV(g:dB t n){i:Nat}(h:i<(jf t).length):∃(v:Vl) (r:List Vl),(jf t)[i]=v::r∧r.length=3∧v.k=2∧v.s.size=0∧v.Ok∧cl v=0:=by
 obtain⟨h',e,jv,_⟩:=afX g h;obtain⟨v,r,h1,h2,h3,h4,h5,h6,_⟩:=acs g jv;exact⟨v,r,e.trans h1,h2,h3,h4,h5,h6⟩
theorem aeg(g:dB t n):(jf t).length≤16000:=by
 have:=RR g.ix [] [];rw[EW] at this;unfold jf;rwa [length_map]

theorem aeh(x:ByteArray)(w:List aS):VP Tryz.prog G 20 [aZ x,au 5 cO w] (.agg [ae 4,aZ x,bF,bF,bF,bI false,au 5 cO w,fk,bI false,ae (-1),fk,bF]):=by
 exact VW

end Go.Proofs.YtkgmonfgofobaaaGreatDoor.Ba
namespace Go.Proofs.YtkgmonfgofobaaaGreatDoor.Ba
open List
open Go.Proofs.Tryz
open Go.RowKit V Pk Tr Vl Go.Proofs.YtkgmonfgofobaaaGreatDoor.Nm Pc Cd Ex Tw
open Pa (bJ bj eS dJ ec dS eC eP en dQ cj Ph)
variable {t:aH} {n c a:Nat} {l:List aH} {e:List aS} {x:ByteArray}
theorem aei(g:dB t n){l:List Int}(hp:l.Pairwise (DX t))(hi:∀i∈l,eR t i):vm t false 0 l=l:=by
 refine(Kk ⟨Perm.refl _,hp.imp_of_mem fun {a b} ha hb h=>?_⟩).symm;obtain⟨f1,o1⟩:=uT g (hi a ha);obtain⟨f2,o2⟩:=uT g (hi b hb);obtain⟨a1,a2,a3,a4,a5,_⟩:=E4 f1 o1;obtain⟨b1,b2,b3,b4,b5,_⟩:=E4 f2 o2;have hk:bC (cH (rowAt t a)) (cH (rowAt t b)):=h;rw[a5,b5] at hk;have aa:=(Un a4 a3 a1 a2 b4 b3 b1 b2).1 hk;have hc:fg (cellAt t 0 a) (cellAt t 0 b)<0:=(Fy _ _).2 (.inr ⟨a1.trans b1.symm,.inl aa⟩);exact .inl (by show j5 t false 0 a b<0;unfold j5;rw[if_neg w8];exact hc)
theorem afY(l:List Int):jF (-1) l=l:=if_neg w4
theorem aej(g:dB t n)(w:List aS):lW t (nA w)=(if (aq t w).2≠0 then (([],0),(aq t w).2) else (((aq t w).1.map (rowAt t),((aq t w).1.length:Int)),0):(List (List Vl)×Int)×Int):=by
 unfold lW;have ho:qd t (nA w)=0:=if_pos (show((⟨#[]⟩:ByteArray).toList==(⟨#[]⟩:ByteArray).toList)=true from BEq.rfl);rw[if_neg (show ¬((nA w).names.any fun n=>decide (bz t.ay n<0))=true from fun h=>by cases h),ho,if_neg (show ¬(0:Int)<0 by decide),show(nA w).aj=w from rfl];have hs:rB t (nA w)=(aq t w).1:=by
  unfold rB;rw[ho];show jF (-1) (vm t false 0 (aq t w).1)=_;rw[afY,aei g (EZ g w) (pV g w)]
 by_cases h:(aq t w).2≠0
 ·rw[if_pos h,if_pos h]
 rw[if_neg h,if_neg h,if_neg (show ¬(nA w).count=true from fun h=>by cases h),hs];have ha:pM t (nA w).names=[0,1,2,3]:=by
  unfold pM;rw[if_pos (show(nA w).names.length=0 from rfl),g.ay];rfl
 have hm:(aq t w).1.map (vw t (pM t (nA w).names))=(aq t w).1.map (rowAt t):=by
  rw[ha];exact map_congr_left fun i hi=>Uo (eR.ok g (pV g w i hi)).1
 rw[hm]

theorem aek(t:aH)(i:Int)(c:Nat)(v:Vl):(pn t i c v).rows.length=t.rows.length:=length_set
theorem JB{i j:Int}{v:Vl}(hi:0≤i)(hj:0≤j)(hl:i.toNat<t.rows.length):rowAt (pn t i c v) j=if j=i then (rowAt t i).set c v else rowAt t j:=by
 show(t.rows.set i.toNat ((rowAt t i).set c v)).getD j.toNat []=_;rw[getD_eq_getElem?_getD];by_cases h:j=i
 ·subst h;rw[if_pos rfl,getElem?_set_self hl];rfl
 rw[if_neg h,getElem?_set_ne w4,←getD_eq_getElem?_getD];rfl
theorem JC{c:Nat}:∀(l:List Int) (vs:List Vl) (t:aH),l.Nodup→l.length=vs.length→(∀i∈l,0≤i∧i.toNat<t.rows.length)→(jH c t l vs).ix=t.ix∧(∀j,0≤j→j∉l→rowAt (jH c t l vs) j=rowAt t j)∧∀k (h1:k<l.length) (h2:k<vs.length),rowAt (jH c t l vs) l[k]=(rowAt t l[k]).set c vs[k]
 | [],[],t,_,_,_=>⟨rfl,fun _ _ _=>rfl,fun k h=>absurd h (Nat.not_lt_zero _)⟩
 | i::r,v::s,t,hn,hl,hi=>by
  rw[nodup_cons] at hn;obtain⟨i0,i1⟩:=hi i mem_cons_self;obtain⟨e1,e2,O⟩:=JC (c:=c) r s (pn t i c v) hn.2 vJ fun j hj=>by rw[aek];exact hi j (mem_cons_of_mem _ hj)
  rw[jH];refine⟨e1.trans rfl,fun j hj hm=>?_,fun k h1 h2=>?_⟩
  ·rw[e2 j hj fun h=>hm (mem_cons_of_mem _ h),JB i0 hj i1,if_neg (fun e=>hm (by rw[e];exact mem_cons_self))]
  match k with
  | 0 =>
   show rowAt _ i=(rowAt t i).set c v;rw[e2 i i0 hn.1,JB i0 i0 i1,if_pos rfl]
  | k+1 =>
   have E:k<r.length:=(by simpa using h1)
   have I:k<s.length:=(by simpa using h2)
   show rowAt _ r[k]=(rowAt t r[k]).set c s[k];have hk:=getElem_mem E;rw[O k E I,JB i0 (hi _ (mem_cons_of_mem _ hk)).1 i1,if_neg (fun e=>hn.1 (by rw[←e];exact hk))]
theorem Up{t:aH}{c:Int}{e:List aS}:∀(l:List Int) (acc:List Vl),(fZ t c e acc l).2=0→(fZ t c e acc l).1=acc++l.map fun i=>(dZ t.ay (rowAt t i) e).1
 | [],acc,_=>by simp[fZ]
 | i::r,acc,h=>by
  rw[fZ] at h ⊢;split
  ·rename_i h1;rw[if_pos h1] at h;exact absurd h h1
  rename_i h1;rw[if_neg h1] at h;split
  ·rename_i h2;rw[if_pos h2] at h;cases h
  rename_i h2;rw[if_neg h2] at h;rw[Up r _ h,map_cons,append_assoc];rfl
theorem ael(g:dB t n){l:List Int}{vs:List Vl}(hn:l.Nodup)(hl:l.length=vs.length)(hi:∀i∈l,eR t i):jf (jH c t l vs)=(eu t.ix).map fun x=>rowAt (jH c t l vs) x.2:=by
 obtain⟨e1,_,_⟩:=JC (c:=c) l vs t hn hl fun i h=>⟨(hi i h).1,(hi i h).2.1⟩
 unfold jf;rw[e1]

def fu(c:ByteArray)(e w:List aS):bJ:={dQ with kind:=5,table:=⟨#[116]⟩,set:=c,bN:=e,aj:=w}
theorem KT(c:ByteArray)(e w:List aS):(fu c e w).kind=5:=rfl
theorem aem{c:ByteArray}(hc:cy c=0)(he:ij e=0)(E:e.length≤40)(Yk:∀o∈e,o.nm.size≤maxLen∧-9223372036854775808≤o.v.n∧o.v.n≤9223372036854775807){w:List aS}(hw:Pa.AX w):ec (fu c e w):=by
 have ht:cy ⟨#[116]⟩=0:=(by decide +kernel)
 refine⟨⟨⟨Nat.zero_le _,Nat.zero_le _,Nat.zero_le _,hw.l,E⟩,Pa.small ht,(fun _ h=>by cases h),(fun _ h=>by cases h),Nat.zero_le _,Pa.small hc,(fun _ h=>by cases h),hw.b,Yk⟩,by show(1:Int)≤5;decide,by show(5:Int)≤6;decide,Ab,Pa.uS ht ?_ aB⟩;show(if cy c=0 then (if ij e=0 then Pa.mR w else ij e) else cy c)=0;rw[if_pos hc,if_pos he,hw.f]
theorem Uq(h:l.map aH.nm=cj){c:ByteArray}{w:List aS}(hc:dJ (fu c e w)=0)(h0:0<l.length):iC l (fu c e w)=(if (eN l[0] (fu c e w)).2.2≠0 then ([],(([],0),(eN l[0] (fu c e w)).2.2)) else (l.set 0 (eN l[0] (fu c e w)).1,(([],(eN l[0] (fu c e w)).2.1),0)):List aH×((List (List Vl)×Int)×Int))∧gd l (fu c e w)=(l.set 0 (eN l[0] (fu c e w)).1,(([],(eN l[0] (fu c e w)).2.1),(eN l[0] (fu c e w)).2.2)):=by
 have hr:gd l (fu c e w)=(l.set 0 (eN l[0] (fu c e w)).1,(([],(eN l[0] (fu c e w)).2.1),(eN l[0] (fu c e w)).2.2)):=by
  unfold gd;have ha:aT l (fu c e w).table=0:=CL h;have jt:l.getD (0:Int).toNat (gF (fu c e w))=l[0]:=(by show l.getD 0 _=_;rw[getD_eq_getElem?_getD,getElem?_eq_getElem h0];rfl)
  rw[if_neg rT,ha,if_neg w4,if_neg rT,if_neg rT,if_pos (KT c e w),jt];rfl
 refine⟨?_,hr⟩;unfold iC;rw[if_neg (fun e=>e hc),if_neg rT,hr]
theorem Sj{t:aH}{c:Int}{e:List aS}:∀(l:List Int) (acc:List Vl),(fZ t c e acc l).2=0→∀i∈l,(dZ t.ay (rowAt t i) e).2=0
 | [],acc,_,i,hi=>by cases hi
 | j::r,acc,h,i,hi=>by
  rw[fZ] at h;by_cases h1:(dZ t.ay (rowAt t j) e).2≠0
  ·rw[if_pos h1] at h;exact absurd h h1
  rw[if_neg h1] at h;by_cases h2:c=0∧(dZ t.ay (rowAt t j) e).1.k=0
  ·rw[if_pos h2] at h;cases h
  rw[if_neg h2] at h;rcases mem_cons.1 hi with rfl|hi
  ·exact Decidable.not_not.1 h1
  exact Sj r _ h i hi

theorem aen(Z:lX l a c)(I:a+c≤30)(h:l.map aH.nm=cj)(h0:0<l.length){w:List aS}(hg:ec (fu x e w))(hc:dJ (fu x e w)=0)(hz:(eN l[0] (fu x e w)).2.2=0) :
  iC l (fu x e w)=(l.set 0 (eN l[0] (fu x e w)).1,(([],(eN l[0] (fu x e w)).2.1),0))∧∃a' O,lX (l.set 0 (eN l[0] (fu x e w)).1) a' O∧(l.set 0 (eN l[0] (fu x e w)).1).map aH.nm=cj:=by
 obtain⟨h1,h2⟩:=Uq h hc h0;refine⟨by rw[h1,if_neg (fun q=>q hz)],?_⟩;have U:(gd l (fu x e w)).2.2=0:=(by rw[h2];exact hz)
 obtain⟨a',O,_,g',_,Hq⟩:=E3 Z I (ec.st hg) rT (Uj hg) (fun e=>absurd e rT) U;have E:=Hq rT;rw[h2] at g' E;exact⟨a',O,g',E.trans h⟩
theorem aeo(h:l.map aH.nm=cj)(h0:0<l.length){w:List aS}(hc:dJ (fu x e w)=0)(hz:(eN l[0] (fu x e w)).2.2≠0):iC l (fu x e w)=(([],(([],0),(eN l[0] (fu x e w)).2.2)):List aH×((List (List Vl)×Int)×Int)):=by
 rw[(Uq h hc h0).1,if_pos hz]

theorem Qv(w:List aS)(hw:Pa.AX w):ec (nA w):=(Pa.Pq (t:=⟨#[116]⟩) (by decide +kernel) (N:=[]) ⟨Nat.zero_le _,fun _ h=>by cases h⟩ (c:=false) (fun h=>by cases h) (o:=⟨#[]⟩) (.inl rfl) (d:=false) (fun _=>rfl) (m:=-1) ⟨by decide,by decide⟩).2 w hw (.inl (by show(4:Int)≤4;decide))

theorem afZ(E:lX l a c)(h:l.map aH.nm=cj)(h0:0<l.length){w:List aS}(hw:Pa.AX w)(hl:w.length≤15) :
  iC l (nA w)=(if (aq l[0] w).2≠0 then ([],(([],0),(aq l[0] w).2)) else (l,(((aq l[0] w).1.map (rowAt l[0]),((aq l[0] w).1.length:Int)),0)):List aH×((List (List Vl)×Int)×Int)):=by
 have g:=E.g.tb _ (getElem_mem h0);rw[Um h rfl rfl (U7 (Qv w hw) rfl (Nat.zero_le _) hl) h0,aej g];by_cases he:(aq l[0] w).2≠0
 ·rw[if_pos he,if_pos he,if_pos he]
 rw[if_neg he,if_neg (fun e=>e rfl),if_neg he]
def yE:Nat→Nat
 | 0=>2
 | r+1=>2*yE r+3
theorem Kq:∀r,2≤yE r
 | 0=>Nat.le_refl _
 | r+1=>by have:=Kq r;rw[yE];omega
theorem U8(H:List (List Tk)){o:aS}(ho:bK o.k=0):∃a b,Pa.jM H o=H++[Pa.oF o a b]:=by
 refine⟨H.getD (Pa.ei H o) [],H.getD (Pa.ei H o+1) [],?_⟩;unfold Pa.jM;have:Pa.ei H o=H.length:=(by unfold Pa.ei;rw[ho];rfl)
 rw[this,take_length]
theorem Sk(H:List (List Tk))(n:Int):∃x,[sE n].foldl Pa.jM H=H++[x]∧x.length≤2:=by
 obtain⟨a,b,h⟩:=U8 H (o:=sE n) rfl;exact⟨_,h,by show 1≤2;decide⟩
theorem Sn(H:List (List Tk))(n:Int)(s:ByteArray):∃x,[pW n s].foldl Pa.jM H=H++[x]∧x.length≤2:=by
 obtain⟨a,b,h⟩:=U8 H (o:=pW n s) rfl;exact⟨_,h,by show(Pa.jd (qO n s)).length≤2;exact(Pa.IF _).2⟩
theorem Qw(H:List (List Tk))(k n:Int)(s:ByteArray):∃x,(kP k n s).foldl Pa.jM H=H++[x]∧x.length≤2:=by
 unfold kP;split
 ·exact Sk H n
 exact Sn H n s
theorem ahr(H:List (List Tk))(x:List Tk){k:Int}(hk:k=5∨k=11):∃y,Pa.jM (H++[x]) (lQ k)=H++[y]∧y.length≤x.length+4:=by
 have hp:bK (lQ k).k=1:=(by show bK k=1;unfold bK;rw[if_neg w4,if_pos hk])
 have eJ:Pa.ei (H++[x]) (lQ k)=H.length:=(by unfold Pa.ei;rw[hp,length_append];rfl)
 refine⟨Pa.oF (lQ k) x ((H++[x]).getD (H.length+1) []),?_,?_⟩
 ·unfold Pa.jM;rw[eJ,take_left' rfl];congr 3;rw[getD_eq_getElem?_getD,getElem?_append_right (Nat.le_refl _),Nat.sub_self];rfl
 unfold Pa.oF;show(if k=1 then _ else if k=2 then _ else if k=5 then _ else if k=11 then _ else _:List Tk).length≤_;rw[if_neg w4,if_neg w4];split
 ·simp only[flatten_cons,flatten_nil,length_append,length_cons,length_nil];omega
 rw[if_pos w4];simp only[flatten_cons,flatten_nil,length_append,length_cons,length_nil];omega
theorem ahs(H:List (List Tk))(x y:List Tk){k:Int}(E:¬(k=1∨k=2))(hk:¬(k=5∨k=11)):∃z,Pa.jM (H++[x]++[y]) (lQ k)=H++[z]∧z.length≤x.length+y.length+3:=by
 have hp:bK (lQ k).k=2:=(by show bK k=2;unfold bK;rw[if_neg E,if_neg hk])
 have eJ:Pa.ei (H++[x]++[y]) (lQ k)=H.length:=(by unfold Pa.ei;rw[hp];simp)
 refine⟨Pa.oF (lQ k) x y,?_,?_⟩
 ·unfold Pa.jM;rw[eJ,append_assoc,take_left' rfl];congr 3
  ·rw[getD_eq_getElem?_getD,getElem?_append_right (Nat.le_refl _),Nat.sub_self];rfl
  rw[getD_eq_getElem?_getD,getElem?_append_right w4,Nat.add_sub_cancel_left];rfl
 unfold Pa.oF;show(if k=1 then _ else if k=2 then _ else if k=5 then _ else if k=11 then _ else _:List Tk).length≤_;rw[if_neg w4,if_neg w4,if_neg w4,if_neg w4];simp only[flatten_cons,flatten_nil,length_append,length_cons,length_nil];omega
theorem Ss:∀(r:Nat) (t:Tw) (H:List (List Tk)),∃x,(bL r t).foldl Pa.jM H=H++[x]∧x.length≤yE r
 | 0,.mk k n s ts,H=>Qw H k n s
 | r+1,.mk k n s ts,H=>by
  have E:∀(i:Nat) (H:List (List Tk)),∃x,(gb r ts n s i).foldl Pa.jM H=H++[x]∧x.length≤yE r:=fun i H=>by
   unfold gb;split
   ·exact Ss r _ H
   obtain⟨x,h1,h2⟩:=Qw H n (i:Int) s;exact⟨x,h1,Nat.le_trans h2 (Kq r)⟩
  have hp:=Kq r;have hs:yE (r+1)=2*yE r+3:=rfl;have hk:=iX k (by decide:(1:Int)≤11);rw[tw];split
  ·obtain⟨x,h1,h2⟩:=Sn H n s;exact⟨x,h1,by omega⟩
  split
  ·obtain⟨x,h1,h2⟩:=Sk H n;exact⟨x,h1,by omega⟩
  split
  ·rename_i h5;obtain⟨x,h1,h2⟩:=E 0 H;obtain⟨y,h3,h4⟩:=ahr H x h5;exact⟨y,by rw[foldl_append,h1];exact h3,by omega⟩
  rename_i n1 n2 h5;obtain⟨x,h1,h2⟩:=E 0 H;obtain⟨y,h3,h4⟩:=E 1 (H++[x]);obtain⟨z,h6,h7⟩:=ahs H x y (k:=1+dI k 11) w4 h5;exact⟨z,by rw[foldl_append,foldl_append,h1,h3];exact h6,by omega⟩
theorem Ur(t:Tw):(Pa.oX (bL 3 t)).length≤37:=by
 obtain⟨x,h1,h2⟩:=Ss 3 t [];unfold Pa.oX;rw[h1];exact h2
theorem af0{c:ByteArray}(t u:Tw)(hg:ec (fu c (bL 3 t) (bL 3 u))):dJ (fu c (bL 3 t) (bL 3 u))=0:=by
 unfold dJ;rw[if_neg (by show ¬((5:Int)<1∨(5:Int)>9);decide),if_neg (fun e=>e hg.2.2.2.2),if_neg];have h1:=Ur t;have h2:=Ur u;have h3:(Pa.jN (bL 3 u)).length≤38:=by
  unfold Pa.jN;split
  ·decide
  rw[length_append,length_map,length_singleton];omega
 have hs:Pa.oY (fu c (bL 3 t) (bL 3 u))=[[⟨#[85,80,68,65,84,69]⟩,⟨#[116]⟩,⟨#[83,69,84]⟩,c].map Pa.bE,[Pa.dD ⟨#[61]⟩],Pa.oX (bL 3 t),Pa.jN (bL 3 u)].flatten:=by
  unfold Pa.oY;rw[if_neg rT,if_neg rT,if_neg rT,if_neg rT,if_pos (KT c _ _)];rfl
 rw[hs];simp only[flatten_cons,flatten_nil,length_append,length_map,length_cons,length_nil];omega

theorem WW:bz bY ⟨#[110]⟩=1∧cy ⟨#[110]⟩=0:=by decide +kernel
theorem aiZ(t:Tw):∀o∈bL 3 t,o.nm.size≤maxLen∧-9223372036854775808≤o.v.n∧o.v.n≤9223372036854775807:=(Pa.wD t).b
theorem Su(t u:Tw):ec (fu ⟨#[110]⟩ (bL 3 t) (bL 3 u)):=aem WW.2 (Ew t) (Pa.wD t).l (aiZ t) (Pa.wD u)
theorem SA{t:aH}{c:Int}{e:List aS}:∀(l:List Int) (acc:List Vl),(∀i∈l,(dZ t.ay (rowAt t i) e).2=0∨(dZ t.ay (rowAt t i) e).2=5)→c≠0→(fZ t c e acc l).2=0∨(fZ t c e acc l).2=5
 | [],acc,_,_=>.inl rfl
 | j::r,acc,h,hc=>by
  rw[fZ];rcases h j mem_cons_self with h1|h1
  ·rw[if_neg (fun q=>q h1),if_neg (fun q=>hc q.1)];exact SA r _ (fun i hi=>h i (mem_cons_of_mem _ hi)) hc
  rw[if_pos (by rw[h1];decide)];exact .inr h1
theorem af1(g:dB t n)(x u:Tw):((eN t (fu ⟨#[110]⟩ (bL 3 x) (bL 3 u))).2.2≠0∧((dm bY (bL 3 x)).2≠0∨(aq t (bL 3 u)).2≠0∨((dm bY (bL 3 x)).1≠2∧(dm bY (bL 3 x)).1≠0)∨(eN t (fu ⟨#[110]⟩ (bL 3 x) (bL 3 u))).2.2=5)) ∨
  ((aq t (bL 3 u)).2=0∧(∀i∈(aq t (bL 3 u)).1,(dZ bY (rowAt t i) (bL 3 x)).2=0)∧eN t (fu ⟨#[110]⟩ (bL 3 x) (bL 3 u))=(jH 1 t (aq t (bL 3 u)).1 ((aq t (bL 3 u)).1.map fun i=>(dZ bY (rowAt t i) (bL 3 x)).1),(((aq t (bL 3 u)).1.length:Int),0))):=by
 have U:bz t.ay (fu ⟨#[110]⟩ (bL 3 x) (bL 3 u)).set=1:=(by rw[g.ay];exact WW.1)
 have jt:(t.ay.getD (1:Int).toNat ⟨⟨#[]⟩,0⟩).k=2:=(by rw[g.ay];rfl)
 have I:=pV g (bL 3 u);unfold eN;rw[U,jt,if_neg w4,show(fu ⟨#[110]⟩ (bL 3 x) (bL 3 u)).bN=bL 3 x from rfl,show(fu ⟨#[110]⟩ (bL 3 x) (bL 3 u)).aj=bL 3 u from rfl];by_cases E:(dm t.ay (bL 3 x)).2≠0
 ·rw[if_pos E];rw[g.ay] at E ⊢;exact .inl ⟨E,.inl E⟩
 rw[if_neg E];by_cases hC:(dm t.ay (bL 3 x)).1≠2∧(dm t.ay (bL 3 x)).1≠0
 ·rw[if_pos hC];rw[g.ay] at hC;exact .inl ⟨by show(4:Int)≠0;decide,.inr (.inr (.inl hC))⟩
 rw[if_neg hC];by_cases O:(aq t (bL 3 u)).2≠0
 ·rw[if_pos O];exact .inl ⟨O,.inr (.inl O)⟩
 rw[if_neg O];have Z:(dm bY (bL 3 x)).2=0:=(by rw[←g.ay];exact Classical.not_not.1 E)
 have uF:∀i∈(aq t (bL 3 u)).1,(dZ t.ay (rowAt t i) (bL 3 x)).2=0∨(dZ t.ay (rowAt t i) (bL 3 x)).2=5:=fun i hi=>by
  rw[g.ay];obtain⟨_,_,_,q⟩:=PX E8 (uT g (I i hi)).1 (T5 (uT g (I i hi)).1) (JA 3 x) (Ew x);rcases(q Z).2 with h|h
  ·exact .inr h
  exact .inl h.1
 rcases SA (t:=t) (c:=1) (e:=bL 3 x) (aq t (bL 3 u)).1 [] uF w8 with h0|h5
 ·right;have hz:=Sj _ _ h0;have h1:(fZ t 1 (bL 3 x) [] (aq t (bL 3 u)).1).1=(aq t (bL 3 u)).1.map fun i=>(dZ bY (rowAt t i) (bL 3 x)).1:=by
   rw[Up _ _ h0,nil_append,g.ay]
  rw[if_neg (fun e=>e h0),if_pos w8,h1];exact⟨Classical.not_not.1 O,fun i hi=>by have:=hz i hi;rwa [g.ay] at this,rfl⟩
 left;rw[if_pos (by rw[h5];decide)];exact⟨by rw[h5];decide,.inr (.inr (.inr h5))⟩
theorem aep(g:dB t n)(w:List aS)(f:Int→Vl):(jf (jH 1 t (aq t w).1 ((aq t w).1.map f))).length=(jf t).length∧∀i∈(aq t w).1,(rowAt t i).set 1 (f i)∈jf (jH 1 t (aq t w).1 ((aq t w).1.map f)):=by
 have hnd:=yK g w;have E:=pV g w;have hl:(aq t w).1.length=((aq t w).1.map f).length:=(by rw[length_map])
 have e1:=ael g (c:=1) hnd hl E;obtain⟨_,_,p3⟩:=JC (c:=1) (aq t w).1 ((aq t w).1.map f) t hnd hl fun i hi=>⟨(E i hi).1,(E i hi).2.1⟩
 refine⟨by rw[e1,length_map];unfold jf;rw[length_map],fun i hi=>?_⟩;obtain⟨k,hk,rfl⟩:=mem_iff_getElem.1 hi;have h3:=p3 k hk (by rw[←hl];exact hk);rw[getElem_map] at h3;rw[e1,←h3];exact mem_map.2 ⟨_,(E _ hi).gZ g,rfl⟩
theorem af2(O:lX l a c)(E:a+c≤30)(h:l.map aH.nm=cj)(h0:0<l.length)(x u:Tw) :
  (∃e,iC l (fu ⟨#[110]⟩ (bL 3 x) (bL 3 u))=([],(([],0),e))∧e≠0∧((dm bY (bL 3 x)).2≠0∨(aq l[0] (bL 3 u)).2≠0∨((dm bY (bL 3 x)).1≠2∧(dm bY (bL 3 x)).1≠0)∨e=5)) ∨
  ∃t a' I,iC l (fu ⟨#[110]⟩ (bL 3 x) (bL 3 u))=(l.set 0 t,(([],((aq l[0] (bL 3 u)).1.length:Int)),0))∧(aq l[0] (bL 3 u)).2=0∧(∀i∈(aq l[0] (bL 3 u)).1,(dZ bY (rowAt l[0] i) (bL 3 x)).2=0∧(rowAt l[0] i).set 1 (dZ bY (rowAt l[0] i) (bL 3 x)).1∈jf t)∧(jf t).length=(jf l[0]).length∧lX (l.set 0 t) a' I∧(l.set 0 t).map aH.nm=cj:=by
 have g:=O.g.tb _ (getElem_mem h0);have hg:=Su x u;have hc:=af0 x u hg;rcases af1 g x u with ⟨h1,h2⟩|⟨h1,h2,h3⟩
 ·exact .inl ⟨_,aeo h h0 hc h1,h1,h2⟩
 right;obtain⟨r1,a',I,r2,r3⟩:=aen O E h h0 hg hc (by rw[h3]);rw[h3] at r1 r2 r3;obtain⟨m1,m2⟩:=aep g (bL 3 u) fun i=>(dZ bY (rowAt l[0] i) (bL 3 x)).1;exact⟨_,a',I,r1,h1,fun i hi=>⟨h2 i hi,m2 i hi⟩,m1,r2,r3⟩

variable {G:List (Nat×List Value)} {m:Int}
theorem aeq(g:dB t n):∀r∈jf t,r.length≤1000000:=fun r hr=>by
 obtain⟨i,hi,rfl⟩:=mem_iff_getElem.1 hr;obtain⟨v,r,e,h,_⟩:=aaV g hi;rw[e,length_cons,h];decide

theorem aer(E:lX l a c)(I:a+c≤30)(h:l.map aH.nm=cj)(h0:0<l.length)(x u:Tw) :
  ∃M:Int,((∃e,iC l (fu ⟨#[110]⟩ (bL 3 x) (bL 3 u))=([],(([],0),e))∧e≠0∧(iC l (nA (bL 3 u))).2.2=M∧((dm bY (bL 3 x)).2≠0∨M≠0∨((dm bY (bL 3 x)).1≠2∧(dm bY (bL 3 x)).1≠0)∨e=5)) ∨
   ∃(rs:List (List Vl)) (t:aH) (a' O:Nat),iC l (nA (bL 3 u))=(l,((rs,(rs.length:Int)),0))∧iC l (fu ⟨#[110]⟩ (bL 3 x) (bL 3 u))=(l.set 0 t,(([],(rs.length:Int)),0)) ∧
    (∀r∈rs,r.length=4∧(∀v∈r,v.Ok)∧(dZ bY r (bL 3 x)).2=0∧r.set 1 (dZ bY r (bL 3 x)).1∈jf t)∧(jf t).length=(jf l[0]).length∧rs.length≤40∧lX (l.set 0 t) a' O∧(l.set 0 t).map aH.nm=cj):=by
 have g:=E.g.tb _ (getElem_mem h0);have h1:=afZ E h h0 (Pa.wD u) (II u).2;refine⟨(iC l (nA (bL 3 u))).2.2,?_⟩;rcases af2 E I h h0 x u with ⟨e,h2,h3,h4⟩|⟨t,a',O,h2,h3,h4,h5,g2,iI⟩
 ·refine .inl ⟨e,h2,h3,rfl,?_⟩;rw[h1];rcases h4 with h4|h4|h4
  ·exact .inl h4
  ·refine .inr (.inl ?_);rw[if_pos h4];exact h4
  exact .inr (.inr h4)
 rw[if_neg (fun e=>e h3)] at h1;refine .inr ⟨(aq l[0] (bL 3 u)).1.map (rowAt l[0]),t,a',O,by rw[h1,length_map],by rw[h2,length_map],fun r hr=>?_,h5,by rw[length_map];exact y8 g _,g2,iI⟩;obtain⟨i,hi,rfl⟩:=mem_map.1 hr;obtain⟨q1,q2⟩:=eR.ok g (pV g _ i hi);exact⟨q1,fun v U=>(q2 v U).1,(h4 i hi).1,(h4 i hi).2⟩
theorem aes{α:Type}{l:List α}{p:α→Bool}{b:Bool}{j:Nat}{x:α}(hb:b=(l.take j).any p)(hj:¬j<l.length)(hx:x∈l)(hp:p x=true):b=true:=by
 rw[take_of_length_le w4] at hb;rw[hb];exact any_eq_true.2 ⟨x,hx,hp⟩
theorem al2{I U E M:Int}(h:U≠0∨M≠0∨(I≠2∧I≠0)∨E=5):(U != 0)=true∨((U != 0)=false∧(M != 0)=true)∨((U != 0)=false∧(M != 0)=false∧(I != 2)=true∧(I != 0)=true)∨((U != 0)=false∧(M != 0)=false∧((I != 2)=true∧(I != 0)=false)∧(E==5)=true)∨((U != 0)=false∧(M != 0)=false∧(I != 2)=false∧(E==5)=true):=by
 have Z:∀{a b:Int},a≠b→(a != b)=true:=fun h=>bne_iff_ne.2 h;have O:∀{a b:Int},a=b→(a != b)=false:=fun h=>by subst h;simp
 by_cases a:U=0
 ·by_cases b:M=0
  ·by_cases c:I=2
   ·refine .inr (.inr (.inr (.inr ⟨O a,O b,O c,?_⟩)));have:E=5:=(by omega)
    rw[this];rfl
   by_cases d:I=0
   ·refine .inr (.inr (.inr (.inl ⟨O a,O b,⟨Z c,O d⟩,?_⟩)));have:E=5:=(by omega)
    rw[this];rfl
   exact .inr (.inr (.inl ⟨O a,O b,Z c,Z d⟩))
  exact .inr (.inl ⟨O a,Z b⟩)
 exact .inl (Z a)
theorem aaW:(Tryz.prog.info? 33).map (fun i=>(i.zero,i.size,i.bytes))=some (some (.agg #[.int .i64 0,.int .i64 0,.string ⟨#[]⟩]),3,32):=by kernel_rfl
theorem ZI(hm:(3,marksC)∈G)(hw:(1,wordsC)∈G)(ht:(0,typesC)∈G)(hG:(2,[Value.int .i64 m])∈G)(ps:List Ph)(gK:∀p∈ps,p.Ok)(fE:ps.length≤maxLen)(ta:Tw)(AH:ta.Ok)(tb:Tw)(qU:tb.Ok):VP Tryz.prog G 6 [.list 14 (ps.flatMap Ph.cs) ps.length,.agg ta.cs,.agg tb.cs] (bI true):=by
 refine VC.body func6 rfl ntmps6 aQ fun X0 w0 bf=>?_;have cY:=dN;have Y9:=FK (G:=G) _ AH;have Za:=FK (G:=G) _ qU;have Ow:=JA 3 tb;have hwo:=Pa.wD ta;have hgs:=Su tb ta;obtain⟨tk,tn,ts,Zb⟩:=ta;obtain⟨uk,un,us,uts⟩:=tb;generalize huo:bL 3 (Tw.mk tk tn ts Zb)=w at *;generalize hxo:bL 3 (Tw.mk uk un us uts)=xo at *;unfold Tw.cs at Za Y9 ⊢;have qw:=Fm (G:=G) hm hw ht bY w8 JD xo (fun o ho=>(Ow o ho).nm);unfold ph at qw;refine bS ?_;refine OD.box (ds:=[_,_,_,_]) ap rfl rfl ot rfl rfl (fun b4=>?_);refine OD.box (ds:=[_,_,_,_]) ap rfl rfl ot rfl rfl (fun b5=>?_);refine an 163 [0,4,5] ?_;refine aA 1 ?_;refine OD.call ap rfl rfl rfl call12 (Uk hm hw ht hG ps gK fE) ⟨ot,trivial⟩ (fa _) ?_;rintro _ _ ⟨l,a,c,rfl,rfl,gn,vU,O⟩;refine OD.alloc (ds:=[_]) ap rfl rfl zeroValue25 rfl (fun b7=>?_);refine aM 0 [_] sizeOf25 ?_;refine an 163 [4,5,7] ?_;refine CD.seq ?_;refine CD.seq ?_;have ir:=WV O;have vV:0<l.length:=(by omega)
 have hg0:=gn.g.tb _ (getElem_mem vV);have uL:=Kp hm hw ht hG l gn.g ⟨#[116]⟩;rw[KS (i:=0) (CL O) vV] at uL;dsimp only at uL;have hrf:=aeg hg0;have hd0:=aer gn vU O vV (Tw.mk uk un us uts) (Tw.mk tk tn ts Zb);rw[hxo,huo] at hd0;obtain⟨M,hd⟩:=hd0;have mh:=VC.xQ (wX hm hw ht hG gn vU (s:=nA w) (ec.st (Qv w hwo)) G2 (fun _=>(show cy ⟨#[116]⟩=0 by decide +kernel)) G3 (fun h=>by cases h)) (args':=[.agg [au 5 cX (l)],.agg [ae 4,aZ ⟨#[116]⟩,bF,bF,bF,bI false,au 5 cO w,fk,bI false,ae (-1),fk,bF]]) ⟨cq,u0 ⟨cq,cq,ey,ey,ey,cq,cq,cq,cq,cq,cq,ey,trivial⟩,trivial⟩;have mi:=VC.xQ (wX hm hw ht hG gn vU (s:=fu ⟨#[110]⟩ xo w) (ec.st hgs) (by show ¬(5:Int)=2;decide) (fun _=>(show cy ⟨#[116]⟩=0 by decide +kernel)) (by show(5:Int)≤6;decide) (fun h=>by cases h)) (args':=[.agg [au 5 cX (l)],.agg [ae 5,aZ ⟨#[116]⟩,bF,bF,bF,bI false,au 5 cO w,fk,bI false,ae (-1),aZ ⟨#[110]⟩,au 5 cO xo]]) ⟨cq,u0 ⟨cq,cq,ey,ey,ey,cq,cq,cq,cq,cq,cq,cq,trivial⟩,trivial⟩;unfold uK at mh mi;generalize iC l (nA w)=R1 at mh hd;generalize iC l (fu ⟨#[110]⟩ xo w)=R2 at mi hd;obtain⟨X1,⟨rs,k1⟩,E1⟩:=R1;obtain⟨X2,⟨rs2,k2⟩,E2⟩:=R2;dsimp only at mh mi hd;obtain⟨H6,WX⟩:∃H6,H6=jf l[0]:=⟨_,rfl⟩
 rw[←WX] at hd;simp only[←WX] at uL hrf;refine bX [4,5,7,33] ?_;refine ax ?_ ?_<;>intro aO bA
 ·exact absurd aO (by simp[ir] at aO)
 refine cL [5,7,8] (Y9) ?_;refine cL [7,8,9] (Za) ?_;refine CD.seq ?_;refine Yj 10 9 8 [7,8,9,10,11,43,44,45] ?_;refine cJ (aeh ⟨#[116]⟩ w) ?_;refine cJ (mh) ?_;refine mG 4 ?_;refine pA ?_;refine pA ?_;refine jI ?_;refine⟨rfl,rfl,fun kN j6=>?_⟩;refine aM 1 [_] sizeOf25 ?_;refine aM 0 [_,_] sizeOf39 ?_;refine an 163 [7,8,9,11,12] ?_;refine aA 4 ?_;refine dO call15 (mi) ?_;refine aG 4 ?_;refine OD.alloc (ds:=[_]) ap rfl rfl zeroValue25 rfl (fun lN=>?_);refine OD.alloc (ds:=[_,_]) ap rfl rfl zeroValue39 rfl (fun AO=>?_);refine aM 1 [_] sizeOf25 ?_;refine aM 0 [_,_] sizeOf39 ?_;refine an 163 [7,9,11,12,13,14,15] ?_;refine af [7,9,11,12,13,14,15,56] ?_;refine ax ?_ ?_<;>intro aY cz
 ·have Ox:E2≠0:=(by simpa using aY)
  obtain⟨e,h2,_,hM,mz⟩:=hd.resolve_right (fun ⟨rs,t,a2,c2,_,h2,_⟩=>Ox (congrArg (fun x=>x.2.2) h2));simp only[Prod.mk.injEq] at h2;obtain⟨rfl,⟨rfl,rfl⟩,rfl⟩:=h2;subst hM;generalize dm bY xo=K at qw mz;obtain⟨K1,K2⟩:=K;dsimp only at qw mz;refine cM [12,13,15,16,17] ?_;refine cJ (Bc) ?_;refine cJ (qw) ?_;refine bD ?_;refine CD.seq ?_;rcases al2 mz with h1|⟨h1,h2⟩|⟨h1,h2,h3,h4⟩|⟨h1,h2,⟨h3,h5⟩,h4⟩|⟨h1,h2,h3,h4⟩
  ·exact CT
  ·exact CT
  ·exact CT
  ·exact CT
  exact CT
 have Ox:E2=0:=(by simpa using aY)
 obtain⟨rsx,t,a2,c2,h1,h2,rQ,lj,apV,HZ,al3⟩:=hd.resolve_left (fun ⟨e,h2,h3,_⟩=>h3 ((congrArg (fun x=>x.2.2) h2).symm.trans Ox));simp only[Prod.mk.injEq] at h1 h2;obtain⟨rfl,⟨rfl,rfl⟩,rfl⟩:=h1;obtain⟨rfl,⟨rfl,rfl⟩,rfl⟩:=h2;have nJ:0<(X1.set 0 t).length:=(by rw[length_set];exact vV)
 have I:=Kp hm hw ht hG _ HZ.g ⟨#[116]⟩;rw[KS (i:=0) (CL al3) nJ,getElem_set_self] at I;dsimp only at I;have HS:=HZ.g.tb _ (getElem_mem nJ);rw[getElem_set_self] at HS;have pI:=aeq HS;generalize jf t=now at I rQ lj pI;have Y2:(((rs.length:Nat):Int)!=((rs.length:Nat):Int))=false:=(by simp)
 refine cL [7,9,11,12,14,18,19] (I) ?_;refine af [7,9,11,18,104] ?_;refine ax ?_ ?_<;>intro cc cN
 ·exact absurd cc (by simp at cc)
 refine af [7,9,11,18,20] ?_;refine ez [7,9,11,18] (fun aR _ (i:Nat) aD=>(i≤rs.length)∧aD=(⟨163,(20,ae (i:Nat))::aR,[⟨kN,39,2,[au 1 gl rs,ae (rs.length:Nat)]⟩,⟨b7,25,1,[au 5 cX (X1)]⟩]⟩:St)) (fun (i:Nat)=>rs.length-i) 0 ⟨(Nat.zero_le _),rfl⟩ ?_;rintro i _ ⟨hi,rfl⟩;refine af [7,9,11,18,20,109] ?_;refine ax ?_ ?_<;>intro cQ ek
 ·have aa:i<rs.length:=(by omega)
  obtain⟨h4,aV,Oy,jv⟩:=rQ (rs[i]'aa) (getElem_mem aa);have U:=J1 (G:=G) hm hw ht bY w8 JD (rs[i]'aa) sX aV xo (fun o ho=>(Ow o ho).nm) (fun o ho=>(Ow o ho).ok);unfold mI at U;generalize dZ bY (rs[i]'aa) xo=EV at U Oy jv;obtain⟨ev,ee⟩:=EV;simp only at U Oy jv;subst Oy;unfold cV at U;refine aA 5 ?_;refine OD.eB (ls:=[]) (new:=(rs[i]'aa)) (Sq:=[]) eZ BF ap rfl rfl underlying43 aaW rfl w8 bP iz (dg (A:=[_,_])) ot sX (by simp only[maxLen,length_nil] at *;omega) (by simp only[length_nil] at *;omega) (fun Z E VH VJ=>?_);refine OD.perm (dW (S1:=[⟨Z,33,E*3,flatMap cV ([]++(rs[i]'aa))⟩]) (A:=[_,_])) ?_;refine an 163 [7,9,11,18,20,21] ?_;refine bS ?_;refine OD.gQ ap rfl rfl rfl call13 (Bc) trivial ?_;refine aG 2 ?_;refine OD.look ap rfl rfl rfl call22 (U) rfl ⟨⟨_,ot,eO⟩,⟨_,ot,(lq (bM (g:=cV) VH VJ) (cm eZ _) (fun B hB=>by rw[mem_singleton] at hB;rw[hB];repeat (first|exact mem_cons_self|apply mem_cons_of_mem)):View _ _ (.list 3 ((rs[i]'aa).flatMap cV) (rs[i]'aa).length))⟩,⟨_,ot,eO⟩,trivial⟩ ?_;refine aG 3 ?_;refine OD.alloc (ds:=[_,_,_]) ap rfl rfl zeroValue33 rfl (fun Hy=>?_);refine aM 0 [_,_,_] sizeOf33 ?_;refine an 163 [7,9,11,18,20,21,22,23] ?_;refine aA 2 ?_
  refine bQ (oe (mk:=Op.indexAddr 43) rfl ot bP (by first|exact oU runUnderlying43 sizeOf33 (j:=1) rfl (by show 1<(rs[i]'aa).length;rw[h4];decide)|exact oV runUnderlying43 sizeOf33 (j:=1) rfl (by show 1<(rs[i]'aa).length;rw[h4];decide))) ?_;refine OD.storeAt (k:=3) (cs':=((rs[i]'aa).set 1 ev).flatMap cV) ap rfl rfl ot rfl rfl ot rfl rfl sizeOf33 rfl (by show 0+1*3+3≤((rs[i]'aa).flatMap cV).length;rw[cm eZ,h4];decide) (by show c8 ((rs[i]'aa).flatMap cV) (0+1*3) (cV ev)=_;rw[Nat.zero_add];exact oq eZ _ _ sX) ?_;refine OD.ic (t:=21) (Sq:=[⟨Z,33,E*3,((rs[i]'aa).set 1 ev).flatMap cV⟩]) lk (by have:=bM (e:=33) (sz:=3) (b:=Z) (cap:=E) (g:=cV) (ls:=((rs[i]'aa).set 1 ev)) (by rw[length_set];exact VH) VJ;rw[length_set] at this;exact this) (show(((rs[i]'aa).set 1 ev).flatMap cV).length=(rs[i]'aa).length*3 by rw[cm eZ,length_set]) (dg (A:=[_,_,_])) ?_;refine an 163 [7,9,11,18,20,21,23] ?_;refine af [7,9,11,18,20,21,23,24] ?_;refine af [7,9,11,18,20,21,23,24,25] ?_;refine ez [7,9,11,18,20,21,23] (fun aR lK (iO:Nat×Bool) aD=>match iO with|(j,b)=>(j≤now.length)∧(b=(now.take j).any (fun q=>oB q ((rs[i]'aa).set 1 ev)))∧aD=(⟨163,(24,bI b)::(25,ae (j:Nat))::aR,lK⟩:St)) (fun (iO:Nat×Bool)=>match iO with|(j,b)=>now.length-j) (0,false) ⟨(Nat.zero_le _),rfl,rfl⟩ ?_;rintro⟨j,b⟩ _ ⟨hj,Oz,rfl⟩;refine af [7,9,11,18,20,21,23,24,25,131] ?_
  refine ax ?_ ?_<;>intro dV fB
  ·have jR:j<now.length:=(by omega)
   have hq:=R9 (G:=G) (now[j]'jR) ((rs[i]'aa).set 1 ev) (pI _ (getElem_mem jR)) (by rw[length_set,h4];decide);(first|rw[length_set] at hq|(unfold au at hq;rw[length_set] at hq));refine CD.skip ?_;refine CD.seq ?_;refine CD.block ?_;rcases Bool.eq_false_or_eq_true b with hb|hb
   ·refine bX [7,9,11,18,20,21,23,24,25] ?_;refine bX [7,9,11,18,20,21,23,24,25] ?_;refine⟨((j+1),true),_,cn,aJ,w4,(by rw[take_succ_eq_append_getElem jR,any_append,←Oz,hb];rfl),rfl⟩
   refine gC [7,9,11,18,20,21,23,24,25] ?_;refine cJ (hq) ?_;refine bD ?_;refine bX [7,9,11,18,20,21,23,24,25] ?_;refine⟨((j+1),(oB (now[j]'jR) ((rs[i]'aa).set 1 ev))),_,cn,aJ,w4,(by rw[take_succ_eq_append_getElem jR,any_append,←Oz,hb,any_cons,any_nil,Bool.or_false,Bool.false_or]),rfl⟩
  have hbt:=aes Oz w4 jv (EI rfl);subst hbt;refine af [7,9,11,18,20,148] ?_;refine ax ?_ ?_<;>intro fD gG
  ·exact absurd fD (by simp at fD)
  refine bX [7,9,11,18,20] ?_;refine⟨(i+1),_,cn,aJ,w4,rfl⟩
 refine cL [18,26,27] (uL) ?_;refine af [6] ?_;refine aK [] ?_;refine⟨?_,rfl⟩;first|rfl|(simp[*];done)
theorem walkUpdateMet(l:List Ph)(v:Value)(ok:(∀x∈l,x.Ok)∧l.length≤maxLen)(ta:Tw)(E:Value)(O:ta.Ok)(tb:Tw)(I:Value)(U:tb.Ok)(w:World)(h1:MarksTab w)(h2:WordsTab w)(h3:TypesTab w){m:Int}(hm:Tab.mw w 2 [Value.int .i64 m])(hv:cg w (fun _=>False) (.list 14 (l.flatMap Ph.cs) l.length) v)(Z:cg w (fun _=>False) (.agg ta.cs) E)(al4:cg w (fun _=>False) (.agg tb.cs) I):Calls Tryz.prog 6 #[v,E,I] w fun e w'=>e = .returned (.bool true)∧Below w.heap.size w w' :=
 (ZI (G:=yD m) Y5 Y6 Y7 Y8 l ok.1 ok.2 ta O tb U).V6 (WU h1 h2 h3 hm) (vs:=[v,E,I]) (cD.cons hv (cD.cons Z (cD.cons al4 (cD.vs w _ []))))

end Go.Proofs.YtkgmonfgofobaaaGreatDoor.Ba
