/-
  What the proof of UpdateNone leans on: walks of the program's functions at the level of values, and plain facts of what they compute.
-/
import Derived.Test.YtkgmonfgofobaaaGreatDoorPGA8
set_option linter.unusedVariables false
set_option linter.unusedSimpArgs false
set_option maxRecDepth 100000
set_option maxHeartbeats 4000000
namespace Go.Proofs.YtkgmonfgofobaaaGreatDoor.Ba
open List
open Go.Proofs.Tryz
open Go.RowKit V Pk Tr Vl Go.Proofs.YtkgmonfgofobaaaGreatDoor.Nm Pc Cd Ex Tw
open Pa (bA bg eI cX di dM ew eE dW dz bM Ph)
variable {G:List (Nat×List Value)} {m:Int}
theorem U5{t:az}{w:List aK}(hw:0<w.length):∀(l:List (K×Int)) (acc:List Int),(∀x∈l,(dG t.ay (rowAt t x.2) w).2=0∧(dG t.ay (rowAt t x.2) w).1.n≠1)→kR t w acc l=(acc,0)
 | [],acc,_=>rfl
 | x::l,acc,h=>by
  obtain⟨h1,h2⟩:=h x mem_cons_self;rw[kR,if_pos hw,if_neg (fun e=>e h1),if_pos h2,U5 hw l acc fun y hy=>h y (mem_cons_of_mem _ hy)]
theorem agu{t:az}{n:Nat}(g:cA t n):∀x∈dh t.ix,Pc.dQ bL (rowAt t x.2)=0:=fun x hx=>by
 obtain⟨h0,h1,h2,h3⟩:=g.gj x hx;rw[fV h1];exact(g.row _ h1 h2).1
theorem ahW{t:az}{n:Nat}(g:cA t n){w:List aK}(hw:0<w.length)(hb:(iO bL w).2=0)(he:∀row,Pc.dQ bL row=0→(dG bL row w).2=0∧(dG bL row w).1.n≠1):aq t w=([],0):=by
 unfold aq;rw[g.ay,if_neg (fun e=>e hb)];exact U5 hw _ [] fun x hx=>by rw[g.ay];exact he _ (agu g x (BZ x hx))

end Go.Proofs.YtkgmonfgofobaaaGreatDoor.Ba
namespace Go.Proofs.YtkgmonfgofobaaaGreatDoor.Ba
open List
open Go.Proofs.Tryz
open Go.RowKit V Pk Tr Vl Go.Proofs.YtkgmonfgofobaaaGreatDoor.Nm Pc Cd Ex Tw
open Pa (bA bg eI cX di dM ew eE dW dz bM Ph)
variable {t:az} {j c n a:Nat} {l:List az} {L:List Int} {e:List aK}
theorem Kb(t:az)(i:Int)(c:Nat)(v:Vl):(iI t i c v).rows.length=t.rows.length:=length_set
theorem vk{i j:Int}{v:Vl}(hi:0≤i)(hj:0≤j)(hl:i.toNat<t.rows.length):rowAt (iI t i c v) j=if j=i then (rowAt t i).set c v else rowAt t j:=by
 exact Yf
theorem xk{c:Nat}:∀(l:List Int) (vs:List Vl) (t:az),l.Nodup→l.length=vs.length→(∀i∈l,0≤i∧i.toNat<t.rows.length)→(eU c t l vs).ix=t.ix∧(∀j,0≤j→j∉l→rowAt (eU c t l vs) j=rowAt t j)∧∀k (h1:k<l.length) (h2:k<vs.length),rowAt (eU c t l vs) l[k]=(rowAt t l[k]).set c vs[k]
 | [],[],t,_,_,_=>⟨rfl,fun _ _ _=>rfl,fun k h=>absurd h (Nat.not_lt_zero _)⟩
 | i::r,v::s,t,hn,hl,hi=>by
  rw[nodup_cons] at hn;obtain⟨i0,i1⟩:=hi i mem_cons_self;obtain⟨e1,e2,O⟩:=xk (c:=c) r s (iI t i c v) hn.2 uK fun j hj=>by rw[Kb];exact hi j (mem_cons_of_mem _ hj)
  rw[eU];refine⟨e1.trans rfl,fun j hj hm=>?_,fun k h1 h2=>?_⟩
  ·rw[e2 j hj fun h=>hm (mem_cons_of_mem _ h),vk i0 hj i1,if_neg (fun e=>hm (by rw[e];exact mem_cons_self))]
  match k with
  | 0 =>
   show rowAt _ i=(rowAt t i).set c v;rw[e2 i i0 hn.1,vk i0 i0 i1,if_pos rfl]
  | k+1 =>
   have E:k<r.length:=(by simpa using h1)
   have I:k<s.length:=(by simpa using h2)
   show rowAt _ r[k]=(rowAt t r[k]).set c s[k];have hk:=getElem_mem E;rw[O k E I,vk i0 (hi _ (mem_cons_of_mem _ hk)).1 i1,if_neg (fun e=>hn.1 (by rw[←e];exact hk))]
theorem zH{t:az}{c:Int}{e:List aK}:∀(l:List Int) (acc:List Vl),(eX t c e acc l).2=0→(eX t c e acc l).1=acc++l.map fun i=>(dG t.ay (rowAt t i) e).1
 | [],acc,_=>by simp[eX]
 | i::r,acc,h=>by
  rw[eX] at h ⊢;split
  ·rename_i h1;rw[if_pos h1] at h;exact absurd h h1
  rename_i h1;rw[if_neg h1] at h;split
  ·rename_i h2;rw[if_pos h2] at h;cases h
  rename_i h2;rw[if_neg h2] at h;rw[zH r _ h,map_cons,append_assoc];rfl
theorem Cj{t:az}{c:Int}{e:List aK}:∀(l:List Int) (acc:List Vl),(∀i∈l,(dG t.ay (rowAt t i) e).2=0∧¬(c=0∧(dG t.ay (rowAt t i) e).1.k=0))→(eX t c e acc l).2=0
 | [],acc,_=>rfl
 | i::r,acc,h=>by
  obtain⟨h1,h2⟩:=h i mem_cons_self;rw[eX,if_neg (fun q=>q h1),if_neg h2];exact Cj r _ fun j hj=>h j (mem_cons_of_mem _ hj)
theorem aeK(g:cA t n){l:List Int}{vs:List Vl}(hn:l.Nodup)(hl:l.length=vs.length)(hi:∀i∈l,eo t i):dB (eU c t l vs)=(dh t.ix).map fun x=>rowAt (eU c t l vs) x.2:=by
 obtain⟨e1,_,_⟩:=xk (c:=c) l vs t hn hl fun i h=>⟨(hi i h).1,(hi i h).2.1⟩
 unfold dB;rw[e1]

theorem Kc(g:cA t n):(bZ t).Pairwise (qA t):=by have:=zu g [];rwa [qL g] at this
theorem La(g:cA t n):(bZ t).length≤40:=by have:=zF g [];rwa [qL g] at this
theorem Jw(g:cA t n)(hL:∀i,i∈L↔eo t i)(hp:L.Pairwise (qA t)):dh t.ix=L.map fun i=>(bU (rowAt t i),i):=by
 exact Ye
theorem Jy(g:cA t n)(hL:∀i,i∈L↔eo t i)(hp:L.Pairwise (qA t)):dB t=L.map (rowAt t):=by
 unfold dB;rw[Jw g hL hp,map_map];rfl
theorem B4{c:Nat}:∀(l:List Int) (vs:List Vl) (t t':az),t.rows=t'.rows→(eU c t l vs).rows=(eU c t' l vs).rows
 | [],_,t,t',h=>by unfold eU;exact h
 | _::_,[],t,t',h=>by unfold eU;exact h
 | i::r,v::s,t,t',h=>by
  rw[eU,eU];refine B4 r s _ _ ?_;show t.rows.set i.toNat ((t.rows.getD i.toNat []).set c v)=t'.rows.set i.toNat ((t'.rows.getD i.toNat []).set c v);rw[h]
theorem BM:∀(l:List Int) (vs:List Vl) (t:az),(eT t l vs).2=0→(eT t l vs).1.rows=(eU 0 t l vs).rows
 | [],_,t,_=>by unfold eT eU;rfl
 | _::_,[],t,_=>by unfold eT eU;rfl
 | i::r,v::s,t,h=>by
  rw[eT] at h ⊢;cases fK:gl t.ix (bU (rowAt (iI t i 0 v) i)) (cQ t.ix) with
  | true=>rw[fK,if_pos rfl] at h;cases h
  | false =>
   rw[fK,if_neg w7] at h;rw[if_neg w7,BM r s _ h,eU];exact B4 r s _ _ rfl
def tQ(v:Vl):Prop:=v.Ok∧jM (bL[0]'w7).k v∧v.k≠0
theorem B6{r:List Vl}(h:r.length=4)(v:Vl):fst (r.set 0 v)=v:=by
 match r,h with
 | a::b,_=>rfl
theorem Ck{D:List Int}(g:kN t n D){i:Int}(hi:eo t i)(hd:i∈D){v:Vl}(hv:tQ v):bU (rowAt (iI t i 0 v) i)=cY [v]:=by
 exact X5
theorem zI:∀(l:List Int) (vs:List Vl) (t:az) (n:Nat) (D:List Int),kN t n D→n+l.length≤300→l.Nodup→(∀i∈l,eo t i∧i∈D)→(∀v∈vs,tQ v)→(∀v∈vs,∀x∈dh t.ix,x.1≠cY [v])→(vs.Pairwise fun a b=>cY [a]≠cY [b])→(eT t l vs).2=0
 | [],_,t,n,D,_,_,_,_,_,_,_=>by unfold eT;rfl
 | _::_,[],t,n,D,_,_,_,_,_,_,_=>by unfold eT;rfl
 | i::r,v::s,t,n,D,g,hn,hnd,hi,hv,hx,hp=>by
  rw[nodup_cons] at hnd;rw[length_cons] at hn;rw[pairwise_cons] at hp;obtain⟨E,hid⟩:=hi i mem_cons_self;have O:=hv v mem_cons_self;have hk:=Ck g E hid O;obtain⟨v1,v2,v3⟩:=O;obtain⟨g1,dc⟩:=zW g E (c:=0) w7 v2 v1 fun _=>⟨v3,hid⟩
  have fK:gl t.ix (bU (rowAt (iI t i 0 v) i)) (cQ t.ix)=false:=(sK g.ix).2 fun x h=>by rw[hk];exact hx v mem_cons_self x h
  obtain⟨j0,U,Z⟩:=dc i E;have dJ:=sN (g1.row _ U Z).1;rw[←fV U] at dJ;obtain⟨_,_,g3⟩:=xj g.ix w4 ((sK g.ix).1 fK) dJ E.1;rw[eT,if_neg uJ];have g2:=Hw g1 w4 (dc i E) hid fK;refine zI r s _ (n+1) _ g2 w4 hnd.2 (fun j hj=>⟨dc j (hi j (mem_cons_of_mem _ hj)).1,by rw[mem_filter];exact⟨(hi j (mem_cons_of_mem _ hj)).2,by simp;exact fun e=>hnd.1 (e ▸ hj)⟩⟩) (fun w hw=>hv w (mem_cons_of_mem _ hw)) (fun w hw x I=>?_) hp.2;rcases(g3 x).1 I with rfl|I
  ·show bU (rowAt (iI t i 0 v) i)≠_;rw[hk];exact hp.1 w hw
  exact hx w (mem_cons_of_mem _ hw) x I
theorem FK(g:cA t n):∃D,kN {t with ix:=iG t t.ix (bZ t)} n D∧(∀i,i∈D↔i∈bZ t)∧dh (iG t t.ix (bZ t))=[]:=by
 exact X8
theorem Ke(g:cA t n)(hn:n≤260){vs:List Vl}(hl:vs.length=(bZ t).length)(hv:∀v∈vs,tQ v)(hd:vs.Pairwise fun a b=>bu (cY [a]) (cY [b])) :
  (eT {t with ix:=iG t t.ix (bZ t)} (bZ t) vs).2=0∧dB (eT {t with ix:=iG t t.ix (bZ t)} (bZ t) vs).1=zipWith (fun r v=>r.set 0 v) (dB t) vs:=by
 obtain⟨D,d1,d3,he⟩:=FK g;have dc:=mS g;have hnd:=zb g;have mb:=La g;have aT:(eT {t with ix:=iG t t.ix (bZ t)} (bZ t) vs).2=0:=zI _ vs _ n D d1 w4 hnd (fun i hi=>⟨(dc i).1 hi,(d3 i).2 hi⟩) hv (fun v _ x hx=>by rw[show dh _=[] from he] at hx;cases hx) (hd.imp fun {a b} (h:bu (cY [a]) (cY [b])) (e:cY [a]=cY [b])=>jl (cY [b]) (by rw[e] at h;exact h));refine⟨aT,?_⟩;obtain⟨D',e1,e2,e3⟩:=Gs _ vs _ n D d1 w4 hnd hl (fun i hi=>⟨(dc i).1 hi,(d3 i).2 hi⟩) hv aT;have U:cA _ _:=(e1.Nn (D':=[]) fun i=>by rw[e3,d3];simp).tb;have hr:=BM _ vs _ aT;obtain⟨_,p2,p3⟩:=xk (c:=0) (bZ t) vs {t with ix:=iG t t.ix (bZ t)} hnd hl.symm fun i hi=>⟨((dc i).1 hi).1,((dc i).1 hi).2.1⟩
 generalize eT {t with ix:=iG t t.ix (bZ t)} (bZ t) vs=M at *;obtain⟨E,e⟩:=M;simp only at U hr e2 aT ⊢;have O:∀j,rowAt E j=rowAt (eU 0 {t with ix:=iG t t.ix (bZ t)} (bZ t) vs) j:=fun j=>by unfold rowAt;rw[hr]
 have Z:∀k (h1:k<(bZ t).length) (h2:k<vs.length),rowAt E (bZ t)[k]=(rowAt t (bZ t)[k]).set 0 vs[k]:=fun k h1 h2=>(O _).trans (p3 k h1 h2);have q2:∀j,0≤j→j∉bZ t→rowAt E j=rowAt t j:=fun j h0 hj=>(O j).trans (p2 j h0 hj);have r4:∀i∈bZ t,(rowAt t i).length=4:=fun i hi=>(eo.ok g ((dc i).1 hi)).1;have e2':E.rows.length=t.rows.length:=e2;have hL:∀i,i∈bZ t↔eo E i:=fun i=>by
  constructor
  ·intro hi;obtain⟨k,hk,rfl⟩:=mem_iff_getElem.1 hi;obtain⟨i0,i1,_⟩:=(dc _).1 hi;refine⟨i0,by omega,fun h=>?_⟩;have h2:rowAt E (bZ t)[k]=[]:=(fV w4).trans h;have h3:=congrArg length (Z k hk w4);rw[h2,length_set,r4 _ hi] at h3;cases h3
  rintro⟨i0,i1,i2⟩;refine Classical.byContradiction fun gJ=>?_;have h1:=q2 i i0 gJ;rw[fV i1,fV w4] at h1;rw[h1] at i2;exact gJ ((dc i).2 ⟨i0,by omega,i2⟩)
 have I:∀k (h1:k<(bZ t).length) (h2:k<vs.length),bU (rowAt E (bZ t)[k])=cY [vs[k]]:=fun k h1 h2=>by
  have hI:=(hL _).1 (getElem_mem h1);obtain⟨f1,f2⟩:=mr U hI;obtain⟨_,_,_,_,a5,_⟩:=oZ f1 f2;rw[a5,Z k h1 h2,B6 (r4 _ (getElem_mem h1))]
 have hp:(bZ t).Pairwise (qA E):=pairwise_iff_getElem.2 fun i j hi hj Bl=>by
  show bu (bU (rowAt E (bZ t)[i])) (bU (rowAt E (bZ t)[j]));rw[I i hi w4,I j hj w4];exact pairwise_iff_getElem.1 hd i j w4 w4 Bl
 rw[Jy U hL hp,ph t];refine ext_getElem NJ fun k h1 h2=>?_
 (first|rw[length_map] at h1|(unfold au at h1;rw[length_map] at h1))
 rw[getElem_map,getElem_zipWith,getElem_map];exact Z k h1 w4

def cx(c:ByteArray)(e w:List aK):bA:={dz with kind:=5,table:=⟨#[116]⟩,set:=c,bJ:=e,aj:=w}
theorem vB(c:ByteArray)(e w:List aK):(cx c e w).kind=5:=rfl
theorem FL{c:ByteArray}(hc:cy c=0)(he:gN e=0)(wu:e.length≤40)(NZ:∀o∈e,o.nm.size≤maxLen∧-9223372036854775808≤o.v.n∧o.v.n≤9223372036854775807){w:List aK}(hw:Pa.qE w):di (cx c e w):=by
 exact X3
theorem Ct{c:ByteArray}{w:List aK}(hg:di (cx c e w))(hl:e.length+w.length≤15):cX (cx c e w)=0:=by
 exact XU
theorem zJ(h:l.map az.nm=bM){c:ByteArray}{w:List aK}(hc:cX (cx c e w)=0)(h0:0<l.length):gA l (cx c e w)=(if (dH l[0] (cx c e w)).2.2≠0 then ([],(([],0),(dH l[0] (cx c e w)).2.2)) else (l.set 0 (dH l[0] (cx c e w)).1,(([],(dH l[0] (cx c e w)).2.1),0)):List az×((List (List Vl)×Int)×Int))∧fp l (cx c e w)=(l.set 0 (dH l[0] (cx c e w)).1,(([],(dH l[0] (cx c e w)).2.1),(dH l[0] (cx c e w)).2.2)):=by
 exact XW
theorem aab(g:cA t n){vs:List Vl}(hl:vs.length=(bZ t).length):dB (eU c t (bZ t) vs)=zipWith (fun r v=>r.set c v) (dB t) vs:=by
 have hnd:=zb g;have dc:∀i∈bZ t,eo t i:=fun i hi=>(mS g i).1 hi;obtain⟨_,_,p3⟩:=xk (c:=c) (bZ t) vs t hnd hl.symm fun i hi=>⟨(dc i hi).1,(dc i hi).2.1⟩
 have e1:dB (eU c t (bZ t) vs)=(bZ t).map (rowAt (eU c t (bZ t) vs)):=by
  rw[aeK g hnd hl.symm dc];unfold bZ;rw[map_map];rfl
 rw[e1,ph t];refine ext_getElem NJ fun k h1 h2=>?_
 (first|rw[length_map] at h1|(unfold au at h1;rw[length_map] at h1))
 rw[getElem_map,getElem_zipWith,getElem_map];exact p3 k h1 w4
theorem Cl{c:Nat}(f:List Vl→Vl):∀L:List (List Vl),zipWith (fun r v=>r.set c v) L (L.map f)=L.map fun r=>r.set c (f r)
 | []=>rfl
 | a::L=>by rw[map_cons,zipWith_cons_cons,Cl f L,map_cons]
def dw(c:Nat):aK:=⟨2,bw,(bL.getD c ⟨⟨#[]⟩,0⟩).n⟩
theorem p9:∀c,c<4→dU bL [dw c]=((bL.getD c ⟨⟨#[]⟩,0⟩).k,0)∧bC bL (dw c).nm=(c:Int)∧cy (dw c).nm=0∧gN [dw c]=0∧(dw c).nm.size≤20:=by decide +kernel
theorem ahX{row:List Vl}(hf:Pc.dQ bL row=0)(hc:c<4):dG bL row [dw c]=(row.getD c bw,0):=by
 obtain⟨h1,h2,_⟩:=p9 c hc;unfold dG;rw[if_neg (fun e=>e hf),if_neg (by rw[h1];exact fun e=>e rfl)];have h3:∀a b,fY bL row (dw c) a b=(row.getD c bw,0):=fun a b=>by
  show(row.getD (bC bL (dw c).nm).toNat bw,(0:Int))=_;rw[h2];rfl
 unfold qV;rw[iZ,h3,if_neg (fun e=>e rfl)];rfl
theorem wZ{r:List Vl}(h:c<r.length):r.set c (r.getD c bw)=r:=by
 rw[getD_eq_getElem?_getD,getElem?_eq_getElem h];simp
theorem aeL(g:cA t n)(hn:n≤260)(hc:c<4):(dH t (cx (dw c).nm [dw c] [])).2=(((dB t).length:Int),0)∧dB (dH t (cx (dw c).nm [dw c] [])).1=dB t:=by
 obtain⟨k1,k2,k3,k4,k5⟩:=p9 c hc;have hm:=qL g;have O:aq t []=(bZ t,0):=hm;have U:∀r∈dB t,r.length=4:=fun r hr=>by
  obtain⟨i,hi,rfl⟩:=mem_iff_getElem.1 hr;obtain⟨v,r,e,h,_⟩:=y9 g hi;rw[e,length_cons,h]
 have E:∀i∈bZ t,dG t.ay (rowAt t i) [dw c]=((rowAt t i).getD c bw,0):=fun i hi=>by rw[g.ay];exact ahX (mr g ((mS g i).1 hi)).1 hc
 have h0:(eX t (c:Int) [dw c] [] (bZ t)).2=0:=Cj _ _ fun i hi=>by
  rw[E i hi];refine⟨rfl,fun ⟨q1,q2⟩=>?_⟩;obtain⟨f1,o1⟩:=mr g ((mS g i).1 hi);obtain⟨a1,_⟩:=oZ f1 o1;have aL:c=0:=(by omega)
  subst aL;have:(fst (rowAt t i)).k=0:=q2;omega
 have h1:(eX t (c:Int) [dw c] [] (bZ t)).1=(dB t).map fun r=>r.getD c bw:=by
  rw[zH _ _ h0,nil_append,ph,map_map];exact map_congr_left fun i hi=>by rw[E i hi];rfl
 have hz:zipWith (fun r v=>r.set c v) (dB t) ((dB t).map fun r=>r.getD c bw)=dB t:=by
  rw[Cl];conv=>rhs;rw[←map_id (dB t)]
  exact map_congr_left fun r hr=>wZ (by rw[U r hr];exact hc)
 have hlen:(bZ t).length=(dB t).length:=(by rw[ph,length_map])
 have I:((dB t).map fun r=>r.getD c bw).length=(bZ t).length:=(by rw[length_map,hlen])
 have Z:bC t.ay (cx (dw c).nm [dw c] []).set=(c:Int):=(by rw[g.ay];exact k2)
 have PF:dU t.ay (cx (dw c).nm [dw c] []).bJ=((bL.getD c ⟨⟨#[]⟩,0⟩).k,0):=(by rw[g.ay];exact k1)
 have ic:t.ay.getD (c:Int).toNat ⟨⟨#[]⟩,0⟩=bL.getD c ⟨⟨#[]⟩,0⟩:=(by rw[g.ay];rfl)
 unfold dH;rw[Z,PF,ic,if_neg w4,if_neg (fun e=>e rfl),if_neg (fun e=>e.1 rfl),show(cx (dw c).nm [dw c] []).aj=[] from rfl,O,show(cx (dw c).nm [dw c] []).bJ=[dw c] from rfl,if_neg (fun e=>e rfl),if_neg (fun e=>e h0),h1];by_cases aL:0<(c:Int)
 ·rw[if_pos aL];refine⟨by rw[←hlen],?_⟩;show dB (eU c t (bZ t) _)=_;rw[aab g I,hz]
 rw[if_neg aL];have u9:c=0:=(by omega)
 subst u9;obtain⟨m1,m2⟩:=Ke g hn I (fun v hv=>by
  obtain⟨r,hr,rfl⟩:=mem_map.1 hv;rw[ph] at hr;obtain⟨i,hi,rfl⟩:=mem_map.1 hr;obtain⟨f1,o1⟩:=mr g ((mS g i).1 hi);obtain⟨a1,a2,a3,a4,_⟩:=oZ f1 o1;exact⟨a3,⟨a4,.inl a1⟩,by show(fst (rowAt t i)).k≠0;omega⟩) (by
  rw[ph,pairwise_map,pairwise_map];refine(Kc g).imp_of_mem fun {a b} ha hb h=>?_;obtain⟨_,_,_,_,a5,_⟩:=oZ (mr g ((mS g a).1 ha)).1 (mr g ((mS g a).1 ha)).2;obtain⟨_,_,_,_,b5,_⟩:=oZ (mr g ((mS g b).1 hb)).1 (mr g ((mS g b).1 hb)).2;have hk:bu (bU (rowAt t a)) (bU (rowAt t b)):=h;rw[a5,b5] at hk;exact hk)
 rw[if_neg (fun e=>e m1)];exact⟨by rw[←hlen],m2.trans hz⟩
theorem aeM(g:cA t n)(hc:c<4){w:List aK}(hw:aq t w=([],0)):dH t (cx (dw c).nm [dw c] w)=(t,0,0):=by
 obtain⟨k1,k2,k3,O,U⟩:=p9 c hc;have E:bC t.ay (cx (dw c).nm [dw c] w).set=(c:Int):=(by rw[g.ay];exact k2)
 have I:dU t.ay (cx (dw c).nm [dw c] w).bJ=((bL.getD c ⟨⟨#[]⟩,0⟩).k,0):=(by rw[g.ay];exact k1)
 have ic:t.ay.getD (c:Int).toNat ⟨⟨#[]⟩,0⟩=bL.getD c ⟨⟨#[]⟩,0⟩:=(by rw[g.ay];rfl)
 unfold dH;rw[E,I,ic,if_neg w4,if_neg (fun e=>e rfl),if_neg (fun e=>e.1 rfl),show(cx (dw c).nm [dw c] w).aj=w from rfl,hw,if_neg (fun e=>e rfl),if_neg (fun e=>e rfl)];by_cases aL:0<(c:Int)
 ·rw[if_pos aL];rfl
 rw[if_neg aL];rfl

theorem Kf(Z:jq l a c)(I:a+c≤30)(h:l.map az.nm=bM)(h0:0<l.length){x:ByteArray}{w:List aK}(hg:di (cx x e w))(hc:cX (cx x e w)=0)(hz:(dH l[0] (cx x e w)).2.2=0) :
  gA l (cx x e w)=(l.set 0 (dH l[0] (cx x e w)).1,(([],(dH l[0] (cx x e w)).2.1),0))∧∃a' O,jq (l.set 0 (dH l[0] (cx x e w)).1) a' O∧(l.set 0 (dH l[0] (cx x e w)).1).map az.nm=bM:=by
 obtain⟨h1,h2⟩:=zJ h hc h0;refine⟨by rw[h1,if_neg (fun q=>q hz)],?_⟩;have U:(fp l (cx x e w)).2.2=0:=(by rw[h2];exact hz)
 obtain⟨a',O,_,g',_,wz⟩:=zv Z I (di.st hg) lq (F8 hg) (fun e=>absurd e lq) U;have E:=wz lq;rw[h2] at g' E;exact⟨a',O,g',E.trans h⟩
theorem FM(I:jq l a c)(E:a+c≤30)(h0:0<l.length):∃n,n≤260∧cA l[0] n:=⟨_,B3 E,I.g.tb _ (getElem_mem h0)⟩
def zU:List aK:=[⟨1,⟨1,0,⟨#[]⟩⟩,⟨#[]⟩⟩]
theorem RC:Pa.qE zU:=⟨by decide,by decide +kernel,fun o ho=>by
 unfold zU at ho;rw[mem_singleton] at ho;subst ho;exact⟨Nat.zero_le _,by show(-9223372036854775808:Int)≤0;decide,by show(0:Int)≤9223372036854775807;decide⟩⟩
theorem abn(g:cA t n):aq t zU=([],0):=by
 refine ahW g (Nat.zero_lt_succ _) yl fun row hr=>?_;unfold dG zU;rw[if_neg (fun e=>e hr),if_neg yl];exact⟨rfl,by show(0:Int)≠1;decide⟩
theorem LI(hc:c<4):∀o∈[dw c],o.nm.size≤maxLen∧-9223372036854775808≤o.v.n∧o.v.n≤9223372036854775807:=fun o ho=>by
 rw[mem_singleton] at ho;subst ho;exact⟨Nat.le_trans (p9 c hc).2.2.2.2 w7,by show(-9223372036854775808:Int)≤0;decide,by show(0:Int)≤9223372036854775807;decide⟩
theorem Fm(hc:c<4){w:List aK}(hw:Pa.qE w):di (cx (dw c).nm [dw c] w):=FL (p9 c hc).2.2.1 (p9 c hc).2.2.2.1 (by show 1≤40;decide) (LI hc) hw
theorem aeN(O:jq l a c)(E:a+c≤30)(h:l.map az.nm=bM)(h0:0<l.length)(hj:j<4) :
  ∃t a' I,gA l (cx (dw j).nm [dw j] [])=(l.set 0 t,(([],((dB l[0]).length:Int)),0))∧dB t=dB l[0]∧jq (l.set 0 t) a' I∧(l.set 0 t).map az.nm=bM:=by
 obtain⟨n,hn,g⟩:=FM O E h0;obtain⟨e1,e2⟩:=aeL g hn hj;have hg:=Fm hj Pa.Ci;obtain⟨h1,a',I,h2,h3⟩:=Kf O E h h0 hg (Ct hg (by show 1+0≤15;decide)) (congrArg Prod.snd e1);exact⟨_,a',I,by rw[h1,congrArg Prod.fst e1],e2,h2,h3⟩
theorem aeO(E:jq l a c)(h:l.map az.nm=bM)(h0:0<l.length)(hj:j<4):gA l (cx (dw j).nm [dw j] zU)=(l,(([],0),0)):=by
 have g:=E.g.tb _ (getElem_mem h0);have e:=aeM g hj (abn g);have hg:=Fm hj RC;rw[(zJ h (Ct hg (by show 1+1≤15;decide)) h0).1,e,if_neg (fun q=>q rfl),set_getElem_self]

variable {G:List (Nat×List Value)} {m:Int}
theorem agv{α:Type}{a b:α}(h:qb a b=true):a=b:=by unfold qb at h;simpa using h
theorem aeP(a b:List (List Vl))(ha:a.length≤1000000)(hb:b.length≤1000000)(E:∀r∈a,r.length≤1000000)(I:∀r∈b,r.length≤1000000):VP Tryz.prog G 17 [au 1 gG a,au 1 gG b] (bG (qb a b)):=by
 refine VC.body func17 rfl ntmps17 aQ fun X0 w0 bf=>?_;have c8:=dV;refine af [0,1] ?_;refine af [0,1,10] ?_;refine av ?_ ?_<;>intro aL bB
 ·exact z143
 have O:a.length=b.length:=(by simp at aL;omega)
 refine af [0,1,5] ?_;refine eG [0,1] (fun aS _ (i:Nat) aE=>(i≤a.length)∧(a.take i=b.take i)∧aE=(⟨27,(5,ae (i:Nat))::aS,[]⟩:St)) (fun (i:Nat)=>a.length-i) 0 ⟨(Nat.zero_le _),rfl,rfl⟩ ?_;rintro i _ ⟨hi,HU,rfl⟩;refine af [0,1,5,14] ?_;refine av ?_ ?_<;>intro aY cD
 ·have aa:i<a.length:=(by omega)
  have s5:i<b.length:=(by omega)
  refine cL [0,1,5,26] (Ka (a[i]'aa) (b[i]'s5) (E _ (getElem_mem aa)) (I _ (getElem_mem s5))) ?_;refine av ?_ ?_<;>intro cm cR
  ·have hne:¬a[i]'aa=b[i]'s5:=fun e=>by rw[BR e] at cm;cases cm
   have fk:qb a b=false:=Kq fun e=>hne (by subst e;rfl);refine af [4] ?_;exact yw
  have Yu:a[i]'aa=b[i]'s5:=(by cases h3:qb (a[i]'aa) (b[i]'s5) with|false=>(rw[h3] at cm;cases cm)|true=>exact agv h3)
  exact Wq
 exact z138

theorem Kg(g:cA t n):∀r∈dB t,r.length≤1000000:=fun r hr=>by
 obtain⟨i,hi,rfl⟩:=mem_iff_getElem.1 hr;obtain⟨v,r,e,h,_⟩:=y9 g hi;rw[e,length_cons,h];decide

theorem U6(hj:j<bL.length):dw j=⟨2,bw,(bL[j]'hj).n⟩:=by
 unfold dw;rw[getD_eq_getElem?_getD,getElem?_eq_getElem hj];rfl
theorem ZX(hm:(3,marksC)∈G)(hw:(1,wordsC)∈G)(ht:(0,typesC)∈G)(hG:(2,[Value.int .i64 m])∈G)(ps:List Ph)(gL:∀p∈ps,p.Ok)(fD:ps.length≤maxLen)(x0:Int)(PG:-9223372036854775808≤x0)(PI:x0≤9223372036854775807):VP Tryz.prog G 3 [.list 14 (ps.flatMap Ph.cs) ps.length,ae x0] (bG true):=by
 refine VC.body func3 rfl ntmps3 aQ fun X0 w0 bf=>?_;have c8:=dV;refine af [0,1] ?_;refine aB 1 ?_;refine OD.call ap rfl rfl rfl call12 (K9 hm hw ht hG ps gL fD) ⟨ot,trivial⟩ (fg _) ?_;rintro _ _ ⟨l,a,c,rfl,rfl,gn,vc,E⟩;refine OD.alloc (ds:=[_]) ap rfl rfl zeroValue25 rfl (fun b5=>?_);refine aO 0 [_] sizeOf25 ?_;refine an 111 [1,5] ?_;refine CD.seq ?_;refine CD.seq ?_;have iu:=Ns E;have O:0<l.length:=(by omega)
 have hg0:=gn.g.tb _ (getElem_mem O);have uX:=jZ x0 (show(1:Int)≤4 by decide);have yP:=kH G x0 4 PG PI w7;obtain⟨j,wq⟩:=Int.eq_ofNat_of_zero_le uX.1;have U:j<4:=(by omega)
 have hj:j<bL.length:=U;rw[wq] at yP;have Z:=zG hm hw ht hG l gn.g ⟨#[116]⟩;rw[zT (i:=0) (uy E) O] at Z;dsimp only at Z;have y5:=J9 hg0;have oT:=Kg hg0;obtain⟨t,a2,c2,Bm,sb,wI,Dv⟩:=aeN gn vc E O U;have lR:0<(l.set 0 t).length:=(by rw[length_set];exact O)
 have I:=zG hm hw ht hG _ wI.g ⟨#[116]⟩;rw[zT (i:=0) (uy Dv) lR,getElem_set_self,sb] at I;dsimp only at I;have XD:=vL hm hw ht hG gn vc (s:=cx (dw j).nm [dw j] []) (di.st (Fm U Pa.Ci)) lq (fun _=>(show cy ⟨#[116]⟩=0 by decide +kernel)) lq (fun h=>by rw[vB] at h;cases h);rw[Bm,U6 hj] at XD;have kE:=VC.uM XD (args':=[.agg [au 5 cU (l)],.agg [ae 5,aZ ⟨#[116]⟩,bF,bF,bF,bG false,bF,fj,bG false,ae (-1),aZ (bL[j]'hj).n,.list 5 ([(⟨2,bw,(bL[j]'hj).n⟩:aK)].flatMap cO) [(⟨2,bw,(bL[j]'hj).n⟩:aK)].length]]) ⟨bN,sO ⟨bN,bN,eu,eu,eu,bN,eu,bN,bN,bN,bN,bN,trivial⟩,trivial⟩;unfold sD at kE;dsimp only at kE;have XE:=vL hm hw ht hG gn vc (s:=cx (dw j).nm [dw j] zU) (di.st (Fm U RC)) lq (fun _=>(show cy ⟨#[116]⟩=0 by decide +kernel)) lq (fun h=>by rw[vB] at h;cases h);rw[aeO gn E O U,U6 hj] at XE;have kS:=VC.uM XE (args':=[.agg [au 5 cU (l)],.agg [ae 5,aZ ⟨#[116]⟩,bF,bF,bF,bG false,.list 5 ([(⟨1,⟨1,0,⟨#[]⟩⟩,⟨#[]⟩⟩:aK)].flatMap cO) [(⟨1,⟨1,0,⟨#[]⟩⟩,⟨#[]⟩⟩:aK)].length,fj,bG false,ae (-1),aZ (bL[j]'hj).n,.list 5 ([(⟨2,bw,(bL[j]'hj).n⟩:aK)].flatMap cO) [(⟨2,bw,(bL[j]'hj).n⟩:aK)].length]]) ⟨bN,sO ⟨bN,bN,eu,eu,eu,bN,bN,bN,bN,bN,bN,bN,trivial⟩,trivial⟩
 unfold sD at kS;dsimp only at kS;generalize dB l[0]=kG at Z I kE y5 oT;have Pu:(((kG.length:Nat):Int)==((kG.length:Nat):Int))=true:=beq_self_eq_true _;have hq:=aeP (G:=G) kG kG (Nat.le_trans y5 w7) (Nat.le_trans y5 w7) oT oT;rw[BR rfl] at hq;refine cc [1,5,25] ?_;refine av ?_ ?_<;>intro aL bB
 ·exact absurd aL (by simp[iu] at aL)
 refine cM [5,6] ?_;refine cN (Je) ?_;refine cN (yP) ?_;refine bH ?_;refine af [5,6,7] ?_;refine aB 4 ?_;refine ec call15 (kE) ?_;refine aH 4 ?_;refine OD.alloc (ds:=[_]) ap rfl rfl zeroValue25 rfl (fun b8=>?_);refine OD.alloc (ds:=[_,_]) ap rfl rfl zeroValue39 rfl (fun b9=>?_);refine aO 1 [_] sizeOf25 ?_;refine aO 0 [_,_] sizeOf39 ?_;refine an 111 [5,6,7,8,9,10] ?_;refine aB 5 ?_;refine eD (cq 0 [_]) [.int .i64 0,.int .i64 0,.int .i64 0,.string ⟨#[]⟩,.string ⟨#[]⟩] [_,_,_,_,_] zeroValue35 runUnderlying36 sizeOf35 (fun yO=>?_);refine fT 0 50 5 1 ?_;refine aH 1 ?_;refine ec call15 (kS) ?_;refine aH 4 ?_;refine OD.alloc (ds:=[_]) ap rfl rfl zeroValue25 rfl (fun lE=>?_);refine OD.alloc (ds:=[_,_]) ap rfl rfl zeroValue39 rfl (fun u7=>?_);refine aO 1 [_] sizeOf25 ?_;refine aO 0 [_,_] sizeOf39 ?_;refine an 111 [5,8,9,10,11,12,13] ?_;refine cL [8,9,10,11,12,13,14,15] (Z) ?_;refine cL [9,10,11,12,13,14,15,16,17] (I) ?_;refine cL [9,10,12,13,14,15,16,17,18,19] (Z) ?_;refine cM [4] ?_;refine cN (hq) ?_;refine cN (hq) ?_;refine bH ?_;exact Mq
theorem walkUpdateNone(l:List Ph)(v:Value)(ok:(∀x∈l,x.Ok)∧l.length≤maxLen)(x0:Int)(E:(Lit.int .i64 x0).wf=true)(w:World)(h1:MarksTab w)(h2:WordsTab w)(h3:TypesTab w){m:Int}(hm:Tab.l5 w 2 [Value.int .i64 m])(hv:cn w (fun _=>False) (.list 14 (l.flatMap Ph.cs) l.length) v):Calls Tryz.prog 3 #[v,.int .i64 x0] w fun e w'=>e = .returned (.bool true)∧Below w.heap.size w w' :=
 (ZX (G:=wJ m) Pz PA PB PC l ok.1 ok.2 x0 (CA E).1 (CA E).2).Mz (Nr h1 h2 h3 hm) (vs:=[v,_]) (cG.cons hv (cG.vs w _ [_]))

end Go.Proofs.YtkgmonfgofobaaaGreatDoor.Ba
