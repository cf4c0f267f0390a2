/-
  What the proof of UpdateKeys leans on: walks of the program's functions at the level of values, and plain facts of what they compute.
-/
import Derived.Test.YtkgmonfgofobaaaGreatDoorPGA8
set_option linter.unusedVariables false
set_option linter.unusedSimpArgs false
set_option maxRecDepth 100000
set_option maxHeartbeats 4000000
namespace Go.Proofs.YtkgmonfgofobaaaGreatDoor.Cd
open List
open Go.Proofs.Tryz
open Go.RowKit V Pk Vl
def gF(l:List UInt8):Nat:=l.foldl (fun a c=>a*256+c.toNat) 0
theorem za(l:List UInt8)(c:UInt8):gF (l++[c])=gF l*256+c.toNat:=by unfold gF;rw[foldl_append];rfl
theorem xq:∀(n:Nat) (l:List UInt8),l.length=n→gF l<256 ^ n
 | 0,l,h=>by rw[eq_nil_of_length_eq_zero h];decide
 | n+1,l,h=>by
  have hne:l≠[]:=(by intro e;subst e;simp at h)
  rw[←dropLast_concat_getLast hne,za];have h1:=xq n l.dropLast (by rw[length_dropLast,h];rfl);have h2:(l.getLast hne).toNat<256:=(l.getLast hne).toNat_lt;rw[Nat.pow_succ];omega
variable {G:List (Nat×List Value)}

end Go.Proofs.YtkgmonfgofobaaaGreatDoor.Cd
namespace Go.Proofs.YtkgmonfgofobaaaGreatDoor.Cd
open List
open Go.Proofs.Tryz
open Go.RowKit V Pk Vl
variable {v:Vl}
theorem y7:∀(b a:List UInt8),gF (a++b)=gF a*256 ^ b.length+gF b
 | [],a=>by simp[gF]
 | c::b,a=>by
  have h1:=y7 b (a++[c]);have h2:=y7 b [c];rw[append_assoc,singleton_append,za] at h1;have h3:gF (c::b)=c.toNat*256 ^ b.length+gF b:=by
   rw[singleton_append] at h2;rw[h2];have:gF [c]=c.toNat:=(by simp[gF])
   rw[this]
  rw[h1,h3,length_cons,Nat.pow_succ,Nat.add_mul,Nat.mul_assoc,Nat.mul_comm 256];omega
theorem JB{u:Nat}(h:u<18446744073709551616):gF (lM u)=u:=by
 exact XV
theorem BF{s:ByteArray}(h:s.size=0):s=⟨#[]⟩:=B9 (eq_nil_of_length_eq_zero (by rw[kJ,h]))
theorem B5(h:cg v=0)(hk:v.k=0):v=⟨0,0,⟨#[]⟩⟩:=by
 unfold cg at h;rw[if_pos hk] at h;split at h
 ·cases h
 rename_i hn;exact Vl.ext' hk (by show v.n=0;omega) (BF w4)
theorem Kk(h:cg v=0)(hk:v.k=1):v.s=⟨#[]⟩:=by
 exact Wu
theorem Kl(h:cg v=0)(hk:v.k=2):v.s=⟨#[]⟩:=by
 exact Wr
theorem Kj(h:cg v=0)(hk:v.k=3):v.n=0:=by
 exact Ws

open Go.Lib (compareBytes)
theorem LJ{a b:UInt8}(h:a≠b):a.toNat≠b.toNat:=fun e=>h (UInt8.toNat_inj.1 e)
theorem qa{a b:UInt8}(x y:List UInt8)(h:a.toNat<b.toNat):compareBytes (a::x) (b::y) = -1:=by rw[sL,if_pos (pV.2 h)]
theorem pu(a:UInt8)(x y:List UInt8):compareBytes (a::x) (a::y)=compareBytes x y:=by
 rw[sL,if_neg ni,if_neg ni]
theorem Cm:∀(p x y:List UInt8),compareBytes (p++x) (p++y)=compareBytes x y
 | [],_,_=>rfl
 | a::p,x,y=>by rw[cons_append,cons_append,pu,Cm p x y]
theorem Ft:∀(x y:List UInt8),compareBytes x y = -1∨compareBytes x y=0∧x=y∨compareBytes x y=1
 | [],[]=>.inr (.inl ⟨rfl,rfl⟩)
 | [],_::_=>.inl rfl
 | _::_,[]=>.inr (.inr rfl)
 | a::x,b::y=>by
  rw[sL];rcases Nat.lt_trichotomy a.toNat b.toNat with h|h|h
  ·exact .inl (if_pos (pV.2 h))
  ·have e:a=b:=UInt8.toNat_inj.1 h;subst e;rw[if_neg ni,if_neg ni];rcases Ft x y with h|⟨h,e⟩|h
   ·exact .inl h
   ·exact .inr (.inl ⟨h,by rw[e]⟩)
   exact .inr (.inr h)
  exact .inr (.inr (by rw[if_neg ni,if_pos (pV.2 h)]))
theorem BN(c:UInt8)(b:List UInt8):gF (c::b)=c.toNat*256 ^ b.length+gF b:=by
 exact z107
theorem Gy:∀(l k:List UInt8) (x y:List UInt8),l.length=k.length→gF l<gF k→compareBytes (l++x) (k++y) = -1
 | [],[],_,_,_,h=>absurd h (Nat.lt_irrefl _)
 | [],_::_,_,_,h,_=>by simp at h
 | _::_,[],_,_,h,_=>by simp at h
 | a::l,b::k,x,y,hl,h=>by
  simp only[length_cons,Nat.add_right_cancel_iff] at hl;rw[BN,BN,hl] at h;have h1:=xq _ l hl;have h2:=xq _ k rfl;rw[cons_append,cons_append];rcases Nat.lt_trichotomy a.toNat b.toNat with e|e|e
  ·exact qa _ _ e
  ·have e':a=b:=UInt8.toNat_inj.1 e;subst e';rw[pu];exact Gy l k x y hl w4
  exfalso;have:(b.toNat+1)*256 ^ k.length≤a.toNat*256 ^ k.length:=Nat.mul_le_mul_right _ e;rw[Nat.succ_mul] at this;omega
theorem rG(c:UInt8)(s:List UInt8):lI (c::s)=(if c=0 then [0,255] else [c])++lI s:=by unfold lI;rw[flatMap_cons]
theorem Cu{c:UInt8}(h:¬c=0):0<c.toNat:=by
 have:=LJ h;have e:(0:UInt8).toNat=0:=rfl;omega
theorem Gb:∀(s t x y:List UInt8),compareBytes s t = -1→compareBytes (lI s++([0,0]++x)) (lI t++([0,0]++y)) = -1
 | [],[],_,_,h=>by exact absurd h w7
 | _::_,[],_,_,h=>by exact absurd (show(1:Int) = -1 from h) w7
 | [],d::t,x,y,_=>by
  rw[rG];by_cases hd:d=0
  ·rw[if_pos hd];show compareBytes (0::0::x) (0::255::(lI t++([0,0]++y))) = -1;rw[pu];exact qa _ _ w7
  rw[if_neg hd];exact qa (a:=0) _ _ (Cu hd)
 | c::s,d::t,x,y,h=>by
  rcases Nat.lt_trichotomy c.toNat d.toNat with e|e|e
  ·have hd:¬d=0:=fun hd=>by subst hd;have:(0:UInt8).toNat=0:=rfl;omega
   rw[rG,rG,if_neg hd];by_cases hc:c=0
   ·rw[if_pos hc];exact qa (a:=0) _ _ (Cu hd)
   rw[if_neg hc];exact qa _ _ e
  ·have e':c=d:=UInt8.toNat_inj.1 e;subst e';rw[pu] at h;rw[rG,rG,append_assoc,append_assoc,Cm];exact Gb s t x y h
  rw[sL,if_neg ni,if_pos (pV.2 e)] at h;exact absurd h w7
theorem Lg{w:Vl}(hv:cg v=0)(ov:v.Ok)(hw:cg w=0)(ow:w.Ok)(x y:List UInt8)(h:fu v w = -1):compareBytes (nD v++x) (nD w++y) = -1:=by
 exact XL
theorem Qf(v w:Vl):fu v w = -1∨fu v w=0∨fu v w=1:=by
 exact Yg
theorem Km{w:Vl}(hv:cg v=0)(ov:v.Ok)(hw:cg w=0)(ow:w.Ok)(x y:List UInt8)(h:fu v w≠0):compareBytes (nD v++x) (nD w++y)=fu v w:=by
 exact Wo

end Go.Proofs.YtkgmonfgofobaaaGreatDoor.Cd
namespace Go.Proofs.YtkgmonfgofobaaaGreatDoor.Ba
open List
open Go.Proofs.Tryz
open Go.RowKit V Pk Tr Vl Go.Proofs.YtkgmonfgofobaaaGreatDoor.Nm Pc Cd Ex Tw
open Pa (bA bg eI cX di dM ew eE dW dz bM Ph)
variable {G:List (Nat×List Value)} {m:Int}
theorem int_lt{v w:Vl}(hv:cg v=0)(ov:v.Ok)(kv:v.k=2)(sv:v.s.size=0)(hw:cg w=0)(ow:w.Ok)(kw:w.k=2)(sw:w.s.size=0)(h:bu (cY [v]) (cY [w])):v.n<w.n:=by
 exact z40

end Go.Proofs.YtkgmonfgofobaaaGreatDoor.Ba
namespace Go.Proofs.YtkgmonfgofobaaaGreatDoor.Ba
open List
open Go.Proofs.Tryz
open Go.RowKit V Pk Tr Vl Go.Proofs.YtkgmonfgofobaaaGreatDoor.Nm Pc Cd Ex Tw
open Pa (bA bg eI cX di dM ew eE dW dz bM Ph)
variable {v:Vl} {t:az} {i:Int} {j c n a:Nat} {L:List Int} {e:List aK} {l:List az} {x:ByteArray}
theorem F9{w:Vl}(hv:cg v=0)(ov:v.Ok)(kv:v.k=2)(sv:v.s.size=0)(hw:cg w=0)(ow:w.Ok)(kw:w.k=2)(sw:w.s.size=0):bu (cY [v]) (cY [w])↔v.n<w.n:=by
 exact z76

theorem Kb(t:az)(i:Int)(c:Nat)(v:Vl):(iI t i c v).rows.length=t.rows.length:=length_set
theorem vk{j:Int}(hi:0≤i)(hj:0≤j)(hl:i.toNat<t.rows.length):rowAt (iI t i c v) j=if j=i then (rowAt t i).set c v else rowAt t j:=by
 exact Yf
theorem xk{c:Nat}:∀(l:List Int) (vs:List Vl) (t:az),l.Nodup→l.length=vs.length→(∀i∈l,0≤i∧i.toNat<t.rows.length)→(eU c t l vs).ix=t.ix∧(∀j,0≤j→j∉l→rowAt (eU c t l vs) j=rowAt t j)∧∀k (h1:k<l.length) (h2:k<vs.length),rowAt (eU c t l vs) l[k]=(rowAt t l[k]).set c vs[k]
 | [],[],t,_,_,_=>⟨rfl,fun _ _ _=>rfl,fun k h=>absurd h (Nat.not_lt_zero _)⟩
 | i::r,v::s,t,hn,hl,hi=>by
  rw[nodup_cons] at hn;obtain⟨i0,i1⟩:=hi i mem_cons_self;obtain⟨e1,e2,O⟩:=xk (c:=c) r s (iI t i c v) hn.2 uK fun j hj=>by rw[Kb];exact hi j (mem_cons_of_mem _ hj)
  rw[eU];refine⟨e1.trans rfl,fun j hj hm=>?_,fun k h1 h2=>?_⟩
  ·rw[e2 j hj fun h=>hm (mem_cons_of_mem _ h),vk i0 hj i1,if_neg (fun e=>hm (by rw[e];exact mem_cons_self))]
  match k with
  | 0 =>
   show rowAt _ i=(rowAt t i).set c v;rw[e2 i i0 hn.1,vk i0 i0 i1,if_pos rfl]
  | k+1 =>
   have E:k<r.length:=(by simpa using h1)
   have I:k<s.length:=(by simpa using h2)
   show rowAt _ r[k]=(rowAt t r[k]).set c s[k];have hk:=getElem_mem E;rw[O k E I,vk i0 (hi _ (mem_cons_of_mem _ hk)).1 i1,if_neg (fun e=>hn.1 (by rw[←e];exact hk))]
theorem zH{t:az}{c:Int}{e:List aK}:∀(l:List Int) (acc:List Vl),(eX t c e acc l).2=0→(eX t c e acc l).1=acc++l.map fun i=>(dG t.ay (rowAt t i) e).1
 | [],acc,_=>by simp[eX]
 | i::r,acc,h=>by
  rw[eX] at h ⊢;split
  ·rename_i h1;rw[if_pos h1] at h;exact absurd h h1
  rename_i h1;rw[if_neg h1] at h;split
  ·rename_i h2;rw[if_pos h2] at h;cases h
  rename_i h2;rw[if_neg h2] at h;rw[zH r _ h,map_cons,append_assoc];rfl
theorem Cj{t:az}{c:Int}{e:List aK}:∀(l:List Int) (acc:List Vl),(∀i∈l,(dG t.ay (rowAt t i) e).2=0∧¬(c=0∧(dG t.ay (rowAt t i) e).1.k=0))→(eX t c e acc l).2=0
 | [],acc,_=>rfl
 | i::r,acc,h=>by
  obtain⟨h1,h2⟩:=h i mem_cons_self;rw[eX,if_neg (fun q=>q h1),if_neg h2];exact Cj r _ fun j hj=>h j (mem_cons_of_mem _ hj)

theorem Kc(g:cA t n):(bZ t).Pairwise (qA t):=by have:=zu g [];rwa [qL g] at this
theorem La(g:cA t n):(bZ t).length≤40:=by have:=zF g [];rwa [qL g] at this
theorem Jw(g:cA t n)(hL:∀i,i∈L↔eo t i)(hp:L.Pairwise (qA t)):dh t.ix=L.map fun i=>(bU (rowAt t i),i):=by
 exact Ye
theorem Jy(g:cA t n)(hL:∀i,i∈L↔eo t i)(hp:L.Pairwise (qA t)):dB t=L.map (rowAt t):=by
 unfold dB;rw[Jw g hL hp,map_map];rfl
theorem B4{c:Nat}:∀(l:List Int) (vs:List Vl) (t t':az),t.rows=t'.rows→(eU c t l vs).rows=(eU c t' l vs).rows
 | [],_,t,t',h=>by unfold eU;exact h
 | _::_,[],t,t',h=>by unfold eU;exact h
 | i::r,v::s,t,t',h=>by
  rw[eU,eU];refine B4 r s _ _ ?_;show t.rows.set i.toNat ((t.rows.getD i.toNat []).set c v)=t'.rows.set i.toNat ((t'.rows.getD i.toNat []).set c v);rw[h]
theorem BM:∀(l:List Int) (vs:List Vl) (t:az),(eT t l vs).2=0→(eT t l vs).1.rows=(eU 0 t l vs).rows
 | [],_,t,_=>by unfold eT eU;rfl
 | _::_,[],t,_=>by unfold eT eU;rfl
 | i::r,v::s,t,h=>by
  rw[eT] at h ⊢;cases fK:gl t.ix (bU (rowAt (iI t i 0 v) i)) (cQ t.ix) with
  | true=>rw[fK,if_pos rfl] at h;cases h
  | false =>
   rw[fK,if_neg w7] at h;rw[if_neg w7,BM r s _ h,eU];exact B4 r s _ _ rfl
def tQ(v:Vl):Prop:=v.Ok∧jM (bL[0]'w7).k v∧v.k≠0
theorem B6{r:List Vl}(h:r.length=4)(v:Vl):fst (r.set 0 v)=v:=by
 match r,h with
 | a::b,_=>rfl
theorem Ck{D:List Int}(g:kN t n D)(hi:eo t i)(hd:i∈D)(hv:tQ v):bU (rowAt (iI t i 0 v) i)=cY [v]:=by
 exact X5
theorem zI:∀(l:List Int) (vs:List Vl) (t:az) (n:Nat) (D:List Int),kN t n D→n+l.length≤300→l.Nodup→(∀i∈l,eo t i∧i∈D)→(∀v∈vs,tQ v)→(∀v∈vs,∀x∈dh t.ix,x.1≠cY [v])→(vs.Pairwise fun a b=>cY [a]≠cY [b])→(eT t l vs).2=0
 | [],_,t,n,D,_,_,_,_,_,_,_=>by unfold eT;rfl
 | _::_,[],t,n,D,_,_,_,_,_,_,_=>by unfold eT;rfl
 | i::r,v::s,t,n,D,g,hn,hnd,hi,hv,hx,hp=>by
  rw[nodup_cons] at hnd;rw[length_cons] at hn;rw[pairwise_cons] at hp;obtain⟨E,hid⟩:=hi i mem_cons_self;have O:=hv v mem_cons_self;have hk:=Ck g E hid O;obtain⟨v1,v2,v3⟩:=O;obtain⟨g1,dc⟩:=zW g E (c:=0) w7 v2 v1 fun _=>⟨v3,hid⟩
  have fK:gl t.ix (bU (rowAt (iI t i 0 v) i)) (cQ t.ix)=false:=(sK g.ix).2 fun x h=>by rw[hk];exact hx v mem_cons_self x h
  obtain⟨j0,U,Z⟩:=dc i E;have dJ:=sN (g1.row _ U Z).1;rw[←fV U] at dJ;obtain⟨_,_,g3⟩:=xj g.ix w4 ((sK g.ix).1 fK) dJ E.1;rw[eT,if_neg uJ];have g2:=Hw g1 w4 (dc i E) hid fK;refine zI r s _ (n+1) _ g2 w4 hnd.2 (fun j hj=>⟨dc j (hi j (mem_cons_of_mem _ hj)).1,by rw[mem_filter];exact⟨(hi j (mem_cons_of_mem _ hj)).2,by simp;exact fun e=>hnd.1 (e ▸ hj)⟩⟩) (fun w hw=>hv w (mem_cons_of_mem _ hw)) (fun w hw x I=>?_) hp.2;rcases(g3 x).1 I with rfl|I
  ·show bU (rowAt (iI t i 0 v) i)≠_;rw[hk];exact hp.1 w hw
  exact hx w (mem_cons_of_mem _ hw) x I
theorem aeQ{D:List Int}(g:kN t n D)(hn:n≤300){j:Int}{r:List Int}{s:List Vl}(hi:eo t i∧i∈D)(hj:eo t j∧j∈D)(E:i≠j)(hv:tQ v):(eT t (i::j::r) (v::v::s)).2=9:=by
 rw[eT];cases fK:gl t.ix (bU (rowAt (iI t i 0 v) i)) (cQ t.ix) with
 | true=>rw[if_pos rfl]
 | false =>
  rw[if_neg w7,eT];have hk:=Ck g hi.1 hi.2 hv;have I:=hv;obtain⟨v1,v2,v3⟩:=I;obtain⟨g1,dc⟩:=zW g hi.1 (c:=0) w7 v2 v1 fun _=>⟨v3,hi.2⟩
  have g2:=Hw g1 hn (dc i hi.1) hi.2 fK;obtain⟨j0,U,Z⟩:=dc i hi.1;have dJ:=sN (g1.row _ U Z).1;rw[←fV U] at dJ;obtain⟨_,_,g3⟩:=xj g.ix hn ((sK g.ix).1 fK) dJ hi.1.1;have fF:=Ck g2 (dc j hj.1) (by rw[mem_filter];exact⟨hj.2,by simp;exact fun e=>E e.symm⟩) hv;have O:gl (gb t.ix (cQ t.ix) (bU (rowAt (iI t i 0 v) i)) i) (cY [v]) (cQ (gb t.ix (cQ t.ix) (bU (rowAt (iI t i 0 v) i)) i))=true:=by
   cases O:gl (gb t.ix (cQ t.ix) (bU (rowAt (iI t i 0 v) i)) i) (cY [v]) (cQ (gb t.ix (cQ t.ix) (bU (rowAt (iI t i 0 v) i)) i)) with
   | true=>rfl
   | false=>exact absurd hk ((sK g2.ix).1 O (bU (rowAt (iI t i 0 v) i),i) ((g3 _).2 (.inl rfl)))
  exact congrArg Prod.snd (if_pos ((congrArg (fun k=>gl (gb t.ix (cQ t.ix) (bU (rowAt (iI t i 0 v) i)) i) k (cQ (gb t.ix (cQ t.ix) (bU (rowAt (iI t i 0 v) i)) i))) fF).trans O))
theorem FK(g:cA t n):∃D,kN {t with ix:=iG t t.ix (bZ t)} n D∧(∀i,i∈D↔i∈bZ t)∧dh (iG t t.ix (bZ t))=[]:=by
 exact X8
theorem Ke(g:cA t n)(hn:n≤260){vs:List Vl}(hl:vs.length=(bZ t).length)(hv:∀v∈vs,tQ v)(hd:vs.Pairwise fun a b=>bu (cY [a]) (cY [b])) :
  (eT {t with ix:=iG t t.ix (bZ t)} (bZ t) vs).2=0∧dB (eT {t with ix:=iG t t.ix (bZ t)} (bZ t) vs).1=zipWith (fun r v=>r.set 0 v) (dB t) vs:=by
 obtain⟨D,d1,d3,he⟩:=FK g;have dc:=mS g;have hnd:=zb g;have mb:=La g;have aT:(eT {t with ix:=iG t t.ix (bZ t)} (bZ t) vs).2=0:=zI _ vs _ n D d1 w4 hnd (fun i hi=>⟨(dc i).1 hi,(d3 i).2 hi⟩) hv (fun v _ x hx=>by rw[show dh _=[] from he] at hx;cases hx) (hd.imp fun {a b} (h:bu (cY [a]) (cY [b])) (e:cY [a]=cY [b])=>jl (cY [b]) (by rw[e] at h;exact h));refine⟨aT,?_⟩;obtain⟨D',e1,e2,e3⟩:=Gs _ vs _ n D d1 w4 hnd hl (fun i hi=>⟨(dc i).1 hi,(d3 i).2 hi⟩) hv aT;have U:cA _ _:=(e1.Nn (D':=[]) fun i=>by rw[e3,d3];simp).tb;have hr:=BM _ vs _ aT;obtain⟨_,p2,p3⟩:=xk (c:=0) (bZ t) vs {t with ix:=iG t t.ix (bZ t)} hnd hl.symm fun i hi=>⟨((dc i).1 hi).1,((dc i).1 hi).2.1⟩
 generalize eT {t with ix:=iG t t.ix (bZ t)} (bZ t) vs=M at *;obtain⟨E,e⟩:=M;simp only at U hr e2 aT ⊢;have O:∀j,rowAt E j=rowAt (eU 0 {t with ix:=iG t t.ix (bZ t)} (bZ t) vs) j:=fun j=>by unfold rowAt;rw[hr]
 have Z:∀k (h1:k<(bZ t).length) (h2:k<vs.length),rowAt E (bZ t)[k]=(rowAt t (bZ t)[k]).set 0 vs[k]:=fun k h1 h2=>(O _).trans (p3 k h1 h2);have q2:∀j,0≤j→j∉bZ t→rowAt E j=rowAt t j:=fun j h0 hj=>(O j).trans (p2 j h0 hj);have r4:∀i∈bZ t,(rowAt t i).length=4:=fun i hi=>(eo.ok g ((dc i).1 hi)).1;have e2':E.rows.length=t.rows.length:=e2;have hL:∀i,i∈bZ t↔eo E i:=fun i=>by
  constructor
  ·intro hi;obtain⟨k,hk,rfl⟩:=mem_iff_getElem.1 hi;obtain⟨i0,i1,_⟩:=(dc _).1 hi;refine⟨i0,by omega,fun h=>?_⟩;have h2:rowAt E (bZ t)[k]=[]:=(fV w4).trans h;have h3:=congrArg length (Z k hk w4);rw[h2,length_set,r4 _ hi] at h3;cases h3
  rintro⟨i0,i1,i2⟩;refine Classical.byContradiction fun gJ=>?_;have h1:=q2 i i0 gJ;rw[fV i1,fV w4] at h1;rw[h1] at i2;exact gJ ((dc i).2 ⟨i0,by omega,i2⟩)
 have I:∀k (h1:k<(bZ t).length) (h2:k<vs.length),bU (rowAt E (bZ t)[k])=cY [vs[k]]:=fun k h1 h2=>by
  have hI:=(hL _).1 (getElem_mem h1);obtain⟨f1,f2⟩:=mr U hI;obtain⟨_,_,_,_,a5,_⟩:=oZ f1 f2;rw[a5,Z k h1 h2,B6 (r4 _ (getElem_mem h1))]
 have hp:(bZ t).Pairwise (qA E):=pairwise_iff_getElem.2 fun i j hi hj Bl=>by
  show bu (bU (rowAt E (bZ t)[i])) (bU (rowAt E (bZ t)[j]));rw[I i hi w4,I j hj w4];exact pairwise_iff_getElem.1 hd i j w4 w4 Bl
 rw[Jy U hL hp,ph t];refine ext_getElem NJ fun k h1 h2=>?_
 (first|rw[length_map] at h1|(unfold au at h1;rw[length_map] at h1))
 rw[getElem_map,getElem_zipWith,getElem_map];exact Z k h1 w4

def cx(c:ByteArray)(e w:List aK):bA:={dz with kind:=5,table:=⟨#[116]⟩,set:=c,bJ:=e,aj:=w}
theorem vB(c:ByteArray)(e w:List aK):(cx c e w).kind=5:=rfl
theorem FL{c:ByteArray}(hc:cy c=0)(he:gN e=0)(wu:e.length≤40)(NZ:∀o∈e,o.nm.size≤maxLen∧-9223372036854775808≤o.v.n∧o.v.n≤9223372036854775807){w:List aK}(hw:Pa.qE w):di (cx c e w):=by
 exact X3
theorem Ct{c:ByteArray}{w:List aK}(hg:di (cx c e w))(hl:e.length+w.length≤15):cX (cx c e w)=0:=by
 exact XU
theorem zJ(h:l.map az.nm=bM){c:ByteArray}{w:List aK}(hc:cX (cx c e w)=0)(h0:0<l.length):gA l (cx c e w)=(if (dH l[0] (cx c e w)).2.2≠0 then ([],(([],0),(dH l[0] (cx c e w)).2.2)) else (l.set 0 (dH l[0] (cx c e w)).1,(([],(dH l[0] (cx c e w)).2.1),0)):List az×((List (List Vl)×Int)×Int))∧fp l (cx c e w)=(l.set 0 (dH l[0] (cx c e w)).1,(([],(dH l[0] (cx c e w)).2.1),(dH l[0] (cx c e w)).2.2)):=by
 exact XW
theorem Cl{c:Nat}(f:List Vl→Vl):∀L:List (List Vl),zipWith (fun r v=>r.set c v) L (L.map f)=L.map fun r=>r.set c (f r)
 | []=>rfl
 | a::L=>by rw[map_cons,zipWith_cons_cons,Cl f L,map_cons]
theorem TC{t:az}{c:Int}{e:List aK}:∀(l:List Int) (acc:List Vl),(eX t c e acc l).2=0→∀i∈l,(dG t.ay (rowAt t i) e).2=0
 | [],acc,_,i,hi=>by cases hi
 | j::r,acc,h,i,hi=>by
  rw[eX] at h;by_cases h1:(dG t.ay (rowAt t j) e).2≠0
  ·rw[if_pos h1] at h;exact absurd h h1
  rw[if_neg h1] at h;by_cases h2:c=0∧(dG t.ay (rowAt t j) e).1.k=0
  ·rw[if_pos h2] at h;cases h
  rw[if_neg h2] at h;rcases mem_cons.1 hi with rfl|hi
  ·exact Decidable.not_not.1 h1
  exact TC r _ h i hi
theorem U7{t:az}{c:Int}{e:List aK}:∀(l:List Int) (acc:List Vl),(∀i∈l,(dG t.ay (rowAt t i) e).2=5∨((dG t.ay (rowAt t i) e).2=0∧(dG t.ay (rowAt t i) e).1.k≠0))→(eX t c e acc l).2=0∨(eX t c e acc l).2=5
 | [],acc,_=>.inl rfl
 | j::r,acc,h=>by
  rw[eX];rcases h j mem_cons_self with h1|⟨h1,h2⟩
  ·rw[if_pos (by rw[h1];decide)];exact .inr h1
  rw[if_neg (fun q=>q h1),if_neg (fun q=>h2 q.2)];exact U7 r _ fun i hi=>h i (mem_cons_of_mem _ hi)
theorem aeR(g:cA t n):((bZ t).map (rowAt t)).Pairwise fun a b=>(fst a).n<(fst b).n:=by
 rw[pairwise_map];refine(Kc g).imp_of_mem fun {a b} ha hb h=>?_;obtain⟨f1,o1⟩:=mr g ((mS g a).1 ha);obtain⟨f2,o2⟩:=mr g ((mS g b).1 hb);obtain⟨a1,a2,a3,a4,a5,_⟩:=oZ f1 o1;obtain⟨b1,b2,b3,b4,b5,_⟩:=oZ f2 o2;have hk:bu (bU (rowAt t a)) (bU (rowAt t b)):=h;rw[a5,b5] at hk;exact(F9 a4 a3 a1 a2 b4 b3 b1 b2).1 hk
def dw(c:Nat):aK:=⟨2,bw,(bL.getD c ⟨⟨#[]⟩,0⟩).n⟩
theorem p9:∀c,c<4→dU bL [dw c]=((bL.getD c ⟨⟨#[]⟩,0⟩).k,0)∧bC bL (dw c).nm=(c:Int)∧cy (dw c).nm=0∧gN [dw c]=0∧(dw c).nm.size≤20:=by decide +kernel
def jh(n:Int):List aK:=[dw 0,⟨1,gZ n,⟨#[]⟩⟩,p8 8]
theorem LK:∀(j:Nat),j<20→dU bL (jh ((j:Int)-10))=(2,0)∧gN (jh ((j:Int)-10))=0:=by decide +kernel
theorem eval_add{row:List Vl}(hf:Pc.dQ bL row=0)(aT:∀v∈row,v.Ok)(hj:j<20):dG bL row (jh ((j:Int)-10))=(bw,5)∨(dG bL row (jh ((j:Int)-10))=(gZ ((fst row).n+((j:Int)-10)),0)∧-9223372036854775808≤(fst row).n+((j:Int)-10)∧(fst row).n+((j:Int)-10)≤9223372036854775807):=by
 obtain⟨h1,_⟩:=LK j hj;obtain⟨a1,a2,a3,a4,_⟩:=oZ hf aT;have h3:∀a b,fY bL row (dw 0) a b=(fst row,0):=fun a b=>by
  show(row.getD (bC bL (dw 0).nm).toNat bw,(0:Int))=_;rw[(p9 0 w7).2.1];rfl
 have h4:∀a b,fY bL row (⟨1,gZ ((j:Int)-10),⟨#[]⟩⟩:aK) a b=(gZ ((j:Int)-10),0):=fun a b=>rfl;have h5:∀a b,fY bL row (p8 8) a b=gY 8 a b:=fun a b=>rfl;have hv:qV bL row (jh ((j:Int)-10))=if (gY 8 (fst row) (gZ ((j:Int)-10))).2≠0 then (bw,(gY 8 (fst row) (gZ ((j:Int)-10))).2) else ((gY 8 (fst row) (gZ ((j:Int)-10))).1,0):=by
  unfold qV jh;rw[iZ,h3,if_neg (fun e=>e rfl),iZ,h4,if_neg (fun e=>e rfl),iZ,h5];rfl
 have I:dG bL row (jh ((j:Int)-10))=qV bL row (jh ((j:Int)-10)):=by
  unfold dG;rw[if_neg (fun e=>e hf),if_neg (by rw[h1];exact fun e=>e rfl)]
 obtain⟨_,_,b1,b2,_⟩:=id a3;have O:cg (gZ ((j:Int)-10))=0:=Cp _;have U:(gZ ((j:Int)-10)).k=2:=rfl;have Z:¬qU (fst row) (gZ ((j:Int)-10))=true:=by
  show ¬((fst row).k==0||(2:Int)==0)=true;rw[a1];decide
 have E:=Jd (k:=8) (Uq a4 O) (.inl rfl) (by rw[a1,U];omega);rw[if_neg Z] at E;by_cases hq:(oC 8 (fst row).n (gZ ((j:Int)-10)).n).2=true
 ·rw[if_pos hq] at E;rw[I,hv,E,if_neg (fun e=>e rfl)];right;have hn:(gZ ((j:Int)-10)).n=(j:Int)-10:=rfl;rw[hn] at hq ⊢;unfold oC at hq ⊢;rw[if_pos rfl] at hq ⊢;have hw:wr ((fst row).n+((j:Int)-10))=(fst row).n+((j:Int)-10)∧-9223372036854775808≤(fst row).n+((j:Int)-10)∧(fst row).n+((j:Int)-10)≤9223372036854775807:=by
   unfold wr at hq ⊢;rw[IntKind.wrap_i64] at hq ⊢;simp only[beq_iff_eq,decide_eq_decide] at hq;omega
  refine⟨?_,hw.2⟩;show((⟨2,wr ((fst row).n+((j:Int)-10)),⟨#[]⟩⟩:Vl),(0:Int))=_;rw[hw.1];rfl
 rw[if_neg hq] at E;rw[I,hv,E,if_pos w7];exact .inl rfl

theorem Kf(Z:jq l a c)(I:a+c≤30)(h:l.map az.nm=bM)(h0:0<l.length){w:List aK}(hg:di (cx x e w))(hc:cX (cx x e w)=0)(hz:(dH l[0] (cx x e w)).2.2=0) :
  gA l (cx x e w)=(l.set 0 (dH l[0] (cx x e w)).1,(([],(dH l[0] (cx x e w)).2.1),0))∧∃a' O,jq (l.set 0 (dH l[0] (cx x e w)).1) a' O∧(l.set 0 (dH l[0] (cx x e w)).1).map az.nm=bM:=by
 obtain⟨h1,h2⟩:=zJ h hc h0;refine⟨by rw[h1,if_neg (fun q=>q hz)],?_⟩;have U:(fp l (cx x e w)).2.2=0:=(by rw[h2];exact hz)
 obtain⟨a',O,_,g',_,wz⟩:=zv Z I (di.st hg) lq (F8 hg) (fun e=>absurd e lq) U;have E:=wz lq;rw[h2] at g' E;exact⟨a',O,g',E.trans h⟩
theorem aeS(h:l.map az.nm=bM)(h0:0<l.length){w:List aK}(hc:cX (cx x e w)=0)(hz:(dH l[0] (cx x e w)).2.2≠0):gA l (cx x e w)=(([],(([],0),(dH l[0] (cx x e w)).2.2)):List az×((List (List Vl)×Int)×Int)):=by
 rw[(zJ h hc h0).1,if_pos hz]
theorem FM(I:jq l a c)(E:a+c≤30)(h0:0<l.length):∃n,n≤260∧cA l[0] n:=⟨_,B3 E,I.g.tb _ (getElem_mem h0)⟩
theorem LI(hc:c<4):∀o∈[dw c],o.nm.size≤maxLen∧-9223372036854775808≤o.v.n∧o.v.n≤9223372036854775807:=fun o ho=>by
 rw[mem_singleton] at ho;subst ho;exact⟨Nat.le_trans (p9 c hc).2.2.2.2 w7,by show(-9223372036854775808:Int)≤0;decide,by show(0:Int)≤9223372036854775807;decide⟩
theorem ajz(hj:j<20):∀o∈jh ((j:Int)-10),o.nm.size≤maxLen∧-9223372036854775808≤o.v.n∧o.v.n≤9223372036854775807:=fun o ho=>by
 have c8:=dV;simp only[jh,mem_cons,not_mem_nil,or_false] at ho;rcases ho with rfl|rfl|rfl
 ·exact LI (c:=0) w7 _ mem_cons_self
 ·exact⟨Nat.zero_le _,by show(-9223372036854775808:Int)≤(j:Int)-10;omega,by show(j:Int)-10≤9223372036854775807;omega⟩
 exact⟨Nat.zero_le _,by show(-9223372036854775808:Int)≤0;decide,by show(0:Int)≤9223372036854775807;decide⟩
theorem TD(hj:j<20):di (cx (dw 0).nm (jh ((j:Int)-10)) []):=FL (p9 0 w7).2.2.1 (LK j hj).2 (by show 3≤40;decide) (ajz hj) Pa.Ci
def nG:List aK:=[⟨1,gZ 1,⟨#[]⟩⟩]
theorem TE:di (cx (dw 0).nm nG []):=FL (p9 0 w7).2.2.1 yl (by show 1≤40;decide) (fun o ho=>by
 unfold nG at ho;rw[mem_singleton] at ho;subst ho;exact⟨Nat.zero_le _,by show(-9223372036854775808:Int)≤1;decide,by show(1:Int)≤9223372036854775807;decide⟩) Pa.Ci
theorem U8{x:Int}(h1:-9223372036854775808≤x)(h2:x≤9223372036854775807):tQ (gZ x):=⟨ok_int ⟨h1,h2⟩,⟨Cp x,.inl rfl⟩,by show(2:Int)≠0;decide⟩
theorem ahY{x y:Int}(h1:-9223372036854775808≤x)(h2:x≤9223372036854775807)(h3:-9223372036854775808≤y)(h4:y≤9223372036854775807)(h:x<y):bu (cY [gZ x]) (cY [gZ y]) :=
 (F9 (Cp x) (ok_int ⟨h1,h2⟩) rfl rfl (Cp y) (ok_int ⟨h3,h4⟩) rfl rfl).2 h
theorem agw(g:cA t n)(hn:n≤260)(hj:j<20):(dH t (cx (dw 0).nm (jh ((j:Int)-10)) [])).2.2=5∨((dH t (cx (dw 0).nm (jh ((j:Int)-10)) [])).2=(((dB t).length:Int),0)∧dB (dH t (cx (dw 0).nm (jh ((j:Int)-10)) [])).1=(dB t).map fun r=>r.set 0 (gZ ((fst r).n+((j:Int)-10)))):=by
 obtain⟨k1,k2,_⟩:=p9 0 w7;obtain⟨c1,c2⟩:=LK j hj;have O:aq t []=(bZ t,0):=qL g;have U:bC t.ay (cx (dw 0).nm (jh ((j:Int)-10)) []).set=0:=(by rw[g.ay];exact k2)
 have Z:dU t.ay (cx (dw 0).nm (jh ((j:Int)-10)) []).bJ=(2,0):=(by rw[g.ay];exact c1)
 have ic:(t.ay.getD (0:Int).toNat ⟨⟨#[]⟩,0⟩).k=2:=(by rw[g.ay];rfl)
 have E:∀i∈bZ t,dG t.ay (rowAt t i) (jh ((j:Int)-10))=(bw,5)∨(dG t.ay (rowAt t i) (jh ((j:Int)-10))=(gZ ((fst (rowAt t i)).n+((j:Int)-10)),0)∧-9223372036854775808≤(fst (rowAt t i)).n+((j:Int)-10)∧(fst (rowAt t i)).n+((j:Int)-10)≤9223372036854775807):=fun i hi=>by
  obtain⟨f1,f2⟩:=mr g ((mS g i).1 hi);rw[g.ay];exact eval_add f1 f2 hj
 have h05:=U7 (t:=t) (c:=0) (e:=jh ((j:Int)-10)) (bZ t) [] fun i hi=>by
  rcases E i hi with h|⟨h,_⟩
  ·exact .inl (by rw[h])
  exact .inr (by rw[h];exact⟨rfl,by show(2:Int)≠0;decide⟩)
 unfold dH;rw[U,Z,if_neg w4,if_neg (fun e=>e rfl),if_neg (by rw[ic];exact fun e=>e.1 rfl),show(cx (dw 0).nm (jh ((j:Int)-10)) []).aj=[] from rfl,O,show(cx (dw 0).nm (jh ((j:Int)-10)) []).bJ=jh ((j:Int)-10) from rfl,if_neg (fun e=>e rfl)];rcases h05 with h0|h5
 ·right;have hz:=TC _ _ h0;have hv:∀i∈bZ t,dG t.ay (rowAt t i) (jh ((j:Int)-10))=(gZ ((fst (rowAt t i)).n+((j:Int)-10)),0)∧-9223372036854775808≤(fst (rowAt t i)).n+((j:Int)-10)∧(fst (rowAt t i)).n+((j:Int)-10)≤9223372036854775807:=fun i hi=>(E i hi).resolve_left fun e=>by
   have:=hz i hi;rw[e] at this;cases this
  have h1:(eX t 0 (jh ((j:Int)-10)) [] (bZ t)).1=(dB t).map fun r=>gZ ((fst r).n+((j:Int)-10)):=by
   rw[zH _ _ h0,nil_append,ph,map_map];exact map_congr_left fun i hi=>by rw[(hv i hi).1];rfl
  have hlen:(bZ t).length=(dB t).length:=(by rw[ph,length_map])
  obtain⟨m1,m2⟩:=Ke g hn (vs:=(dB t).map fun r=>gZ ((fst r).n+((j:Int)-10))) (by rw[length_map,hlen]) (fun v hv2=>by
   obtain⟨r,hr,rfl⟩:=mem_map.1 hv2;rw[ph] at hr;obtain⟨i,hi,rfl⟩:=mem_map.1 hr;exact U8 (hv i hi).2.1 (hv i hi).2.2) (by
   have hp:=aeR g;rw[ph,pairwise_map];refine hp.imp_of_mem fun {a b} ha hb h=>?_;obtain⟨i,hi,rfl⟩:=mem_map.1 ha;obtain⟨i2,I,rfl⟩:=mem_map.1 hb;exact ahY (hv i hi).2.1 (hv i hi).2.2 (hv i2 I).2.1 (hv i2 I).2.2 w4)
  rw[if_neg (fun e=>e h0),if_neg w4,h1,if_neg (fun e=>e m1)];exact⟨by rw[←hlen],m2.trans (Cl (fun r=>gZ ((fst r).n+((j:Int)-10))) _)⟩
 left;rw[if_pos (by rw[h5];decide)];exact h5
theorem agx(O:jq l a c)(E:a+c≤30)(h:l.map az.nm=bM)(h0:0<l.length)(hj:j<20) :
  gA l (cx (dw 0).nm (jh ((j:Int)-10)) [])=([],(([],0),5))∨∃t a' I,gA l (cx (dw 0).nm (jh ((j:Int)-10)) [])=(l.set 0 t,(([],((dB l[0]).length:Int)),0))∧(dB t=(dB l[0]).map fun r=>r.set 0 (gZ ((fst r).n+((j:Int)-10))))∧jq (l.set 0 t) a' I∧(l.set 0 t).map az.nm=bM:=by
 obtain⟨n,hn,g⟩:=FM O E h0;have hg:=TD hj;have hc:=Ct hg (by show 3+0≤15;decide);rcases agw g hn hj with h5|⟨e1,e2⟩
 ·left;rw[aeS h h0 hc (by rw[h5];decide),h5]
 right;obtain⟨h1,a',I,h2,h3⟩:=Kf O E h h0 hg hc (congrArg Prod.snd e1);exact⟨_,a',I,by rw[h1,congrArg Prod.fst e1],e2,h2,h3⟩
theorem agy(g:cA t n)(hn:n≤260):(dH t (cx (dw 0).nm nG [])).2.2=if 1<(dB t).length then 9 else 0:=by
 obtain⟨k1,k2,_⟩:=p9 0 w7;have U:aq t []=(bZ t,0):=qL g;have Z:bC t.ay (cx (dw 0).nm nG []).set=0:=(by rw[g.ay];exact k2)
 have E:dU bL nG=(2,0):=(by decide +kernel)
 have PF:dU t.ay (cx (dw 0).nm nG []).bJ=(2,0):=(by rw[g.ay];exact E)
 have ic:(t.ay.getD (0:Int).toNat ⟨⟨#[]⟩,0⟩).k=2:=(by rw[g.ay];rfl)
 have I:∀i∈bZ t,dG t.ay (rowAt t i) nG=(gZ 1,0):=fun i hi=>by
  rw[g.ay];unfold dG;rw[if_neg (fun e=>e (mr g ((mS g i).1 hi)).1),if_neg (by rw[E];exact fun e=>e rfl)];rfl
 have h0:(eX t 0 nG [] (bZ t)).2=0:=Cj _ _ fun i hi=>by
  rw[I i hi];exact⟨rfl,fun q=>absurd q.2 (by show ¬(2:Int)=0;decide)⟩
 have h1:(eX t 0 nG [] (bZ t)).1=(bZ t).map fun _=>gZ 1:=by
  rw[zH _ _ h0,nil_append];exact map_congr_left fun i hi=>by rw[I i hi]
 have hlen:(bZ t).length=(dB t).length:=(by rw[ph,length_map])
 have hv1:tQ (gZ 1):=U8 w7 w7;have O:(eT {t with ix:=iG t t.ix (bZ t)} (bZ t) ((bZ t).map fun _=>gZ 1)).2=if 1<(dB t).length then 9 else 0:=by
  rw[←hlen];obtain⟨D,d1,d3,he⟩:=FK g;have hnd:=zb g;have dc:=mS g;match hL:bZ t with
  | []=>rw[if_neg w7];rfl
  | [i] =>
   rw[if_neg (by show ¬1<1;decide)];rw[hL] at d1 d3 he;refine zI _ _ _ n D d1 (by show n+1≤300;omega) bj (fun x hx=>⟨?_,(d3 x).2 hx⟩) (fun v hv=>by
    rw[map_cons,map_nil,mem_singleton] at hv;rw[hv];exact hv1) (fun v _ x hx=>by rw[show dh _=[] from he] at hx;cases hx) bj
   rw[←hL] at hx;exact(dc x).1 hx
  | i::k::r =>
   rw[if_pos bj];rw[hL] at d1 d3 hnd;have hi:eo t i:=(dc i).1 (by rw[hL];exact mem_cons_self);have hk:eo t k:=(dc k).1 (by rw[hL];exact mem_cons_of_mem _ mem_cons_self);exact aeQ d1 w4 ⟨hi,(d3 i).2 mem_cons_self⟩ ⟨hk,(d3 k).2 (mem_cons_of_mem _ mem_cons_self)⟩ (fun e=>by rw[nodup_cons] at hnd;exact hnd.1 (e ▸ mem_cons_self)) hv1
 unfold dH;rw[Z,PF,if_neg w4,if_neg (fun e=>e rfl),if_neg (by rw[ic];exact fun e=>e.1 rfl),show(cx (dw 0).nm nG []).aj=[] from rfl,U,show(cx (dw 0).nm nG []).bJ=nG from rfl,if_neg (fun e=>e rfl),if_neg (fun e=>e h0),if_neg w4,h1];by_cases hb:(eT {t with ix:=iG t t.ix (bZ t)} (bZ t) ((bZ t).map fun _=>gZ 1)).2≠0
 ·rw[if_pos hb];exact O
 rw[if_neg hb,←O];exact(Classical.not_not.1 hb).symm
theorem agz(I:jq l a c)(E:a+c≤30)(h:l.map az.nm=bM)(h0:0<l.length):(gA l (cx (dw 0).nm nG [])).2.2=if 1<(dB l[0]).length then 9 else 0:=by
 obtain⟨n,hn,g⟩:=FM I E h0;have e:=agy g hn;rw[(zJ h (Ct TE (by show 1+0≤15;decide)) h0).1];by_cases hz:(dH l[0] (cx (dw 0).nm nG [])).2.2≠0
 ·rw[if_pos hz];exact e
 rw[if_neg hz,←e];exact(Classical.not_not.1 hz).symm

variable {G:List (Nat×List Value)} {m:Int}
theorem Cv{r:List Vl}(h:0<r.length):fst r=r[0]:=by unfold fst;rw[getD_eq_getElem?_getD,getElem?_eq_getElem h];rfl

theorem ZY(hm:(3,marksC)∈G)(hw:(1,wordsC)∈G)(ht:(0,typesC)∈G)(hG:(2,[Value.int .i64 m])∈G)(ps:List Ph)(gL:∀p∈ps,p.Ok)(fD:ps.length≤maxLen)(x0:Int)(PG:-9223372036854775808≤x0)(PI:x0≤9223372036854775807):VP Tryz.prog G 4 [.list 14 (ps.flatMap Ph.cs) ps.length,ae x0] (bG true):=by
 refine VC.body func4 rfl ntmps4 aQ fun X0 w0 bf=>?_;have c8:=dV;refine af [0,1] ?_;refine aB 1 ?_;refine OD.call ap rfl rfl rfl call12 (K9 hm hw ht hG ps gL fD) ⟨ot,trivial⟩ (fg _) ?_;rintro _ _ ⟨l,a,c,rfl,rfl,gn,Z,I⟩;refine OD.alloc (ds:=[_]) ap rfl rfl zeroValue25 rfl (fun b5=>?_);refine aO 0 [_] sizeOf25 ?_;refine an 143 [1,5] ?_;refine CD.seq ?_;refine CD.seq ?_;have iu:=Ns I;have U:0<l.length:=(by omega)
 have hg0:=gn.g.tb _ (getElem_mem U);have uX:=jZ x0 (show(1:Int)≤20 by decide);have yP:=kH G x0 20 PG PI w7;obtain⟨j,wq⟩:=Int.eq_ofNat_of_zero_le uX.1;have hj:j<20:=(by omega)
 rw[wq] at yP;have ve:=zG hm hw ht hG l gn.g ⟨#[116]⟩;rw[zT (i:=0) (uy I) U] at ve;dsimp only at ve;have y5:=J9 hg0;have EP:∀i (h:i<(dB l[0]).length),(dB l[0])[i].length=4:=fun i h=>by obtain⟨v,r,e,h,_⟩:=y9 hg0 h;rw[e,length_cons,h]
 have hd:=agx gn Z I U hj;have iq:=agz gn Z I U;have kE:=VC.uM (vL hm hw ht hG gn Z (s:=cx (dw 0).nm (jh ((j:Int)-10)) []) (di.st (TD hj)) lq (fun _=>(show cy ⟨#[116]⟩=0 by decide +kernel)) lq (fun h=>by rw[vB] at h;cases h)) (args':=[.agg [au 5 cU (l)],.agg [ae 5,aZ ⟨#[116]⟩,bF,bF,bF,bG false,bF,fj,bG false,ae (-1),aZ ⟨#[105,100]⟩,.list 5 (((jh ((j:Int)-10))).flatMap cO) ((jh ((j:Int)-10))).length]]) ⟨bN,sO ⟨bN,bN,eu,eu,eu,bN,eu,bN,bN,bN,bN,bN,trivial⟩,trivial⟩;unfold sD at kE;have kS:=VC.uM (vL hm hw ht hG gn Z (s:=cx (dw 0).nm nG []) (di.st TE) lq (fun _=>(show cy ⟨#[116]⟩=0 by decide +kernel)) lq (fun h=>by rw[vB] at h;cases h)) (args':=[.agg [au 5 cU (l)],.agg [ae 5,aZ ⟨#[116]⟩,bF,bF,bF,bG false,bF,fj,bG false,ae (-1),aZ ⟨#[105,100]⟩,au 5 cO (nG)]]) ⟨bN,sO ⟨bN,bN,eu,eu,eu,bN,eu,bN,bN,bN,bN,bN,trivial⟩,trivial⟩;unfold sD at kS;generalize gA l (cx (dw 0).nm (jh ((j:Int)-10)) [])=R1 at kE hd;generalize gA l (cx (dw 0).nm nG [])=R2 at kS iq;obtain⟨X1,⟨rs1,k1⟩,E1⟩:=R1;obtain⟨X2,⟨rs2,k2⟩,E2⟩:=R2;dsimp only at kE kS iq;generalize dB l[0]=kG at ve hd iq y5 EP;refine cc [1,5,25] ?_;refine av ?_ ?_<;>intro aL bB
 ·exact absurd aL (by simp[iu] at aL)
 refine cM [5,6] ?_;refine cN (yP) ?_;refine aR 0 ?_ (h:=by exact(dA (r:=.int .i64 ((j:Int)-10)) rfl ot bP (iy (wrap_i64 w4 w4))));refine bH ?_;refine af [5,6,7] ?_;refine aB 3 ?_;refine ec call15 (kE) ?_;refine aH 4 ?_;refine OD.alloc (ds:=[_]) ap rfl rfl zeroValue25 rfl (fun b8=>?_);refine OD.alloc (ds:=[_,_]) ap rfl rfl zeroValue39 rfl (fun b9=>?_);refine aO 1 [_] sizeOf25 ?_;refine aO 0 [_,_] sizeOf39 ?_;refine an 143 [5,6,8,9,10] ?_;refine cL [5,6,8,9,10,11,12] (ve) ?_;refine af [5,6,8,9,10,11,12,49] ?_;refine av ?_ ?_<;>intro aY cD
 ·have Bv:E1=5:=(by simpa using aY)
  have h1:=hd.resolve_right (fun ⟨t,a2,c2,h1,_⟩=>by have:=congrArg (fun x=>x.2.2) h1;simp only at this;omega);simp only[Prod.mk.injEq] at h1;obtain⟨rfl,_,_⟩:=h1;refine af [4] ?_;refine aM [] ?_;refine⟨?_,rfl⟩;first|rfl|(simp;done)
 have Bv:¬E1=5:=(by simpa using aY)
 obtain⟨t,a2,c2,h1,Ml,wI,Dv⟩:=hd.resolve_left (fun h1=>Bv (congrArg (fun x=>x.2.2) h1));simp only[Prod.mk.injEq] at h1;obtain⟨rfl,⟨rfl,rfl⟩,rfl⟩:=h1;have lR:0<(l.set 0 t).length:=(by rw[length_set];exact U)
 have O:=zG hm hw ht hG _ wI.g ⟨#[116]⟩;rw[zT (i:=0) (uy Dv) lR,getElem_set_self] at O;dsimp only at O;have Pj:cA t _:=(by have:=wI.g.tb _ (getElem_mem lR);rwa [getElem_set_self] at this)
 have hfn:∀i (h:i<(dB t).length),-9223372036854775808≤(fst (dB t)[i]).n∧(fst (dB t)[i]).n≤9223372036854775807:=fun i h=>by obtain⟨v,r,e,_,_,_,aT,_⟩:=y9 Pj h;rw[e];exact⟨aT.n1,aT.n2⟩
 generalize dB t=now at O Ml hfn;have hlen:now.length=kG.length:=(by rw[Ml,length_map])
 have Pu:(((kG.length:Nat):Int)!=((kG.length:Nat):Int))=false:=(by simp)
 have hxx:(!((E2==9)==decide (((kG.length:Nat):Int)>1)))=false:=(by rw[iq];by_cases h1:1<kG.length;rw[if_pos h1,decide_eq_true w4];rfl;rw[if_neg h1,decide_eq_false w4];rfl)
 refine cL [5,6,9,10,11,12,13,14] (O) ?_;refine af [5,6,9,10,11,12,13,14,15] ?_;refine aB 3 ?_;refine ec call15 (kS) ?_;refine aH 4 ?_;refine OD.alloc (ds:=[_]) ap rfl rfl zeroValue25 rfl (fun b16=>?_);refine OD.alloc (ds:=[_,_]) ap rfl rfl zeroValue39 rfl (fun Zt=>?_);refine aO 1 [_] sizeOf25 ?_;refine aO 0 [_,_] sizeOf39 ?_;refine an 143 [6,9,10,11,12,13,14,18] ?_;refine cM [6,11,13,105] ?_;refine aR 16 ?_ (h:=by exact(dA rfl ot ot (JI underlying4)));refine bH ?_;refine av ?_ ?_<;>intro cm cR
 ·exact absurd cm (by simp[hlen] at cm)
 refine af [6,11,13,19] ?_;refine eG [6,11,13] (fun aS kV (i:Nat) aE=>(i≤kG.length)∧aE=(⟨143,(19,ae (i:Nat))::aS,kV⟩:St)) (fun (i:Nat)=>kG.length-i) 0 ⟨(Nat.zero_le _),rfl⟩ ?_;rintro i _ ⟨hi,rfl⟩;refine af [6,11,13,19,109] ?_;refine av ?_ ?_<;>intro da eA
 ·have aa:i<kG.length:=(by omega)
  have E:i<now.length:=(by omega)
  have EQ:=EP i aa;have nk:(now[i]'E)=(kG[i]'aa).set 0 (gZ ((fst (kG[i]'aa)).n+((j:Int)-10))):=(by simp only[Ml,getElem_map])
  have pL:(now[i]'E).length=4:=(by rw[nk,length_set,EQ])
  have PJ:0<(kG[i]'aa).length:=(by omega)
  have PM:0<(now[i]'E).length:=(by omega)
  have Bn:=Cv PJ;have rZ:=hfn i E;have ZH:fst (now[i]'E)=gZ ((fst (kG[i]'aa)).n+((j:Int)-10)):=(by rw[nk];exact B6 EQ _)
  rw[ZH] at rZ;have gH:(now[i]'E)[0]=gZ ((fst (kG[i]'aa)).n+((j:Int)-10)):=(Cv PM).symm.trans ZH;have u6:((now[i]'E)[0].n != (kG[i]'aa)[0].n+((j:Int)-10))=false:=(by rw[gH,←Bn];simp[gZ])
  have jd:-9223372036854775808≤(kG[i]'aa)[0].n+((j:Int)-10):=(by rw[←Bn];exact rZ.1)
  have oh:(kG[i]'aa)[0].n+((j:Int)-10)≤9223372036854775807:=(by rw[←Bn];exact rZ.2)
  have jj:(now[i]'E).drop 1=(kG[i]'aa).drop 1:=(by rw[nk,drop_set_of_lt w7])
  have hq:=Ka (G:=G) ((now[i]'E).drop 1) ((kG[i]'aa).drop 1) Dy Dy;rw[BR jj] at hq;refine cM [6,11,13,19,142] ?_;refine aR 4 ?_ (h:=by exact(o9 (mk:=Op.indexAddr 43) rfl ot bP (by first|exact pU runUnderlying43 sizeOf33 (j:=0) rfl PM|exact pY runUnderlying43 sizeOf33 (j:=0) rfl PM)));refine aR 6 ?_ (h:=by exact(o9 (mk:=Op.indexAddr 43) rfl ot bP (by first|exact pU runUnderlying43 sizeOf33 (j:=0) rfl PJ|exact pY runUnderlying43 sizeOf33 (j:=0) rfl PJ)));refine aR 3 ?_ (h:=by exact(dA (r:=.int .i64 ((kG[i]'aa)[0].n+((j:Int)-10))) rfl ot ot (kr (wrap_i64 jd oh))));refine aR 6 ?_ (h:=by exact(eJ (l:=1) rfl ot ⟨_,bP⟩ trivial (by first|exact nR rfl jT (fun h=>by cases h) runUnderlying43 sizeOf33 w4|exact nR rfl vu (fun h=>by cases h) runUnderlying43 sizeOf33 w4|exact nR rfl j3 (fun h=>by cases h) runUnderlying43 sizeOf33 w4|exact nR rfl fq (fun h=>by cases h) runUnderlying43 sizeOf33 w4|exact nR rfl mu (fun h=>by cases h) runUnderlying43 sizeOf33 w4|exact nx (fun _=>rfl) runUnderlying43 sizeOf33 w4|exact mO (fun h=>by cases h) (fun _=>rfl) runUnderlying43 sizeOf33 w4 w4)))
  refine aR 4 ?_ (h:=by exact(eJ (l:=1) rfl ot ⟨_,bP⟩ trivial (by first|exact nR rfl jT (fun h=>by cases h) runUnderlying43 sizeOf33 w4|exact nR rfl vu (fun h=>by cases h) runUnderlying43 sizeOf33 w4|exact nR rfl j3 (fun h=>by cases h) runUnderlying43 sizeOf33 w4|exact nR rfl fq (fun h=>by cases h) runUnderlying43 sizeOf33 w4|exact nR rfl mu (fun h=>by cases h) runUnderlying43 sizeOf33 w4|exact nx (fun _=>rfl) runUnderlying43 sizeOf33 w4|exact mO (fun h=>by cases h) (fun _=>rfl) runUnderlying43 sizeOf33 w4 w4)));refine cN (hq) ?_;refine bH ?_;refine av ?_ ?_<;>intro dR fH
  ·exact absurd dR (by simp at dR)
  refine cc [6,11,13,19] ?_;refine⟨(i+1),_,cr,aJ,w4,rfl⟩
 refine af [4] ?_;exact Mq
theorem walkUpdateKeys(l:List Ph)(v:Value)(ok:(∀x∈l,x.Ok)∧l.length≤maxLen)(x0:Int)(E:(Lit.int .i64 x0).wf=true)(w:World)(h1:MarksTab w)(h2:WordsTab w)(h3:TypesTab w){m:Int}(hm:Tab.l5 w 2 [Value.int .i64 m])(hv:cn w (fun _=>False) (.list 14 (l.flatMap Ph.cs) l.length) v):Calls Tryz.prog 4 #[v,.int .i64 x0] w fun e w'=>e = .returned (.bool true)∧Below w.heap.size w w' :=
 (ZY (G:=wJ m) Pz PA PB PC l ok.1 ok.2 x0 (CA E).1 (CA E).2).Mz (Nr h1 h2 h3 hm) (vs:=[v,_]) (cG.cons hv (cG.vs w _ [_]))

end Go.Proofs.YtkgmonfgofobaaaGreatDoor.Ba
