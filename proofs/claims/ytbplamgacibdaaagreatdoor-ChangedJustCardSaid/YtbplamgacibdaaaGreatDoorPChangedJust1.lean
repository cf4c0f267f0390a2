/-
  ChangedJust: walks and plain facts.
-/
import Derived.Test.YtbplamgacibdaaaGreatDoorPGC8
set_option linter.unusedVariables false
set_option linter.unusedSimpArgs false
set_option maxRecDepth 100000
set_option maxHeartbeats 4000000
namespace Go.Proofs.YtbplamgacibdaaaGreatDoor.Tr
open List
open Go.Proofs.Tryz
open Go.Lib (compareBytes)
variable {t:aF} {h:Nat} {k:K}
theorem By:∀{a b:List (K×Int)},a.Pairwise (fun x y=>bG x.1 y.1)->b.Pairwise (fun x y=>bG x.1 y.1)->(∀x,x∈a↔x∈b)->a=b
 | [],[],_,_,_=>rfl
 | [],y::b,_,_,h=>absurd ((h y).2 mem_cons_self) bq
 | x::a,[],_,_,h=>absurd ((h x).1 mem_cons_self) bq
 | x::a,y::b,ha,hb,h=>by
  obtain⟨a1,a2⟩:=pairwise_cons.1 ha;obtain⟨b1,b2⟩:=pairwise_cons.1 hb;have E:x=y:=by
   rcases mem_cons.1 ((h x).1 mem_cons_self) with e|e
   ·exact e
   rcases mem_cons.1 ((h y).2 mem_cons_self) with e2|e2
   ·exact e2.symm
   exact absurd (a1 y e2) (vt (b1 x e))
  subst E;congr 1;refine By a2 b2 fun z=>⟨fun hz=>?_,fun hz=>?_⟩
  ·rcases mem_cons.1 ((h z).1 (mem_cons_of_mem _ hz)) with e|e
   ·subst e;exact absurd (a1 z hz) (jS _)
   exact e
  rcases mem_cons.1 ((h z).2 (mem_cons_of_mem _ hz)) with e|e
  ·subst e;exact absurd (b1 z hz) (jS _)
  exact e

end Go.Proofs.YtbplamgacibdaaaGreatDoor.Tr
namespace Go.Proofs.YtbplamgacibdaaaGreatDoor.Ba
open List
open Go.Proofs.Tryz
open Go.RowKit V Pk Tr Vl Go.Proofs.YtbplamgacibdaaaGreatDoor.Nm Pc Cd Ex Tw
open Pa (bp aY dZ dA dH di dO ei dD cX bK Ph)
variable {t:az} {n:Nat} {i j:Int} {was L:List (List Vl)} {l:List az} {x y:ByteArray}
theorem Jo(g:cQ t n)(h:fh t i):dg (mc t i).ix=(dg t.ix).filter fun x=>decide (x.2≠i):=by
 exact Yi
theorem J4(hi:0<=i)(hj:0<=j)(h:j≠i):rowAt (mc t i) j=rowAt t j:=by
 exact WG
theorem Bt{n:Nat}:∀{l:List Int} {t:az},cQ t n->l.Nodup->(∀i∈l,fh t i)->dg (kw t l).ix=(dg t.ix).filter (fun x=>decide (x.2∉l))/\∀j,0<=j->j∉l->rowAt (kw t l) j=rowAt t j
 | [],t,g,_,_=>⟨by rw[kw];exact(filter_eq_self.2 fun x _=>decide_eq_true bq).symm,fun j _ _=>rfl⟩
 | i::r,t,g,hn,hi=>by
  rw[nodup_cons] at hn;have h1:=hi i mem_cons_self;obtain⟨e1,e2⟩:=Bt (E6 g h1) hn.2 fun j hj=>FT (hi j (mem_cons_of_mem _ hj)) (fun e=>hn.1 (e ▸ hj)) h1.1;rw[kw];refine⟨?_,fun j hj hm=>?_⟩
  ·rw[e1,Jo g h1,filter_filter];refine filter_congr fun x _=>?_;by_cases a:x.2=i<;>by_cases b:x.2∈r<;>simp[a,b]
  rw[e2 j hj fun E=>hm (mem_cons_of_mem _ E),J4 h1.1 hj fun e=>hm (e ▸ mem_cons_self)]

theorem BJ(t:az)(i:Int)(c:Nat)(v:Vl):(mJ t i c v).rows.length=t.rows.length:=length_set
theorem xj{c:Nat}{v:Vl}(hi:0<=i)(hj:0<=j)(hl:i.toNat<t.rows.length):rowAt (mJ t i c v) j=if j=i then (rowAt t i).set c v else rowAt t j:=by
 exact Yx
theorem E8{c:Nat}:∀(l:List Int) (vs:List Vl) (t:az),l.Nodup->l.length=vs.length->(∀i∈l,0<=i/\i.toNat<t.rows.length)->(eH c t l vs).ix=t.ix/\(∀j,0<=j->j∉l->rowAt (eH c t l vs) j=rowAt t j)/\∀k (h1:k<l.length) (h2:k<vs.length),rowAt (eH c t l vs) l[k]=(rowAt t l[k]).set c vs[k]
 | [],[],t,_,_,_=>⟨rfl,fun _ _ _=>rfl,fun k h=>absurd h (Nat.not_lt_zero _)⟩
 | i::r,v::s,t,hn,hl,hi=>by
  rw[nodup_cons] at hn;obtain⟨i0,i1⟩:=hi i mem_cons_self;obtain⟨e1,e2,O⟩:=E8 (c:=c) r s (mJ t i c v) hn.2 uI fun j hj=>by rw[BJ];exact hi j (mem_cons_of_mem _ hj)
  rw[eH];refine⟨e1.trans rfl,fun j hj hm=>?_,fun k h1 h2=>?_⟩
  ·rw[e2 j hj fun h=>hm (mem_cons_of_mem _ h),xj i0 hj i1,if_neg (fun e=>hm (by rw[e];exact mem_cons_self))]
  match k with
  | 0 =>
   show rowAt _ i=(rowAt t i).set c v;rw[e2 i i0 hn.1,xj i0 i0 i1,if_pos rfl]
  | k+1 =>
   have E:k<r.length:=(by simpa using h1)
   have I:k<s.length:=(by simpa using h2)
   show rowAt _ r[k]=(rowAt t r[k]).set c s[k];have hk:=getElem_mem E;rw[O k E I,xj i0 (hi _ (mem_cons_of_mem _ hk)).1 i1,if_neg (fun e=>hn.1 (by rw[<-e];exact hk))]

theorem BK{c:Nat}:∀(l:List Int) (vs:List Vl) (t t':az),t.rows=t'.rows->(eH c t l vs).rows=(eH c t' l vs).rows
 | [],_,t,t',h=>by unfold eH;exact h
 | _::_,[],t,t',h=>by unfold eH;exact h
 | i::r,v::s,t,t',h=>by
  rw[eH,eH];refine BK r s _ _ ?_;show t.rows.set i.toNat ((t.rows.getD i.toNat []).set c v)=t'.rows.set i.toNat ((t'.rows.getD i.toNat []).set c v);rw[h]
theorem EO:∀(l:List Int) (vs:List Vl) (t:az),(gd t l vs).2=0->(gd t l vs).1.rows=(eH 0 t l vs).rows
 | [],_,t,_=>by unfold gd eH;rfl
 | _::_,[],t,_=>by unfold gd eH;rfl
 | i::r,v::s,t,h=>by
  rw[gd] at h |-;cases gG:gS t.ix (cg (rowAt (mJ t i 0 v) i)) (c9 t.ix) with
  | true=>rw[gG,if_pos rfl] at h;cases h
  | false =>
   rw[gG,if_neg w8] at h;rw[if_neg w8,EO r s _ h,eH];exact BK r s _ _ rfl

noncomputable def fC(was now:List (List Vl))(n:Nat):List Int:=((range n).filter fun i=>(!(gk (now.getD i []) (was.getD i [])))||decide (was.length<=i)).map Int.ofNat
theorem tT(was now:List (List Vl))(n:Nat):fC was now (n+1)=fC was now n++(if ((!(gk (now.getD n []) (was.getD n [])))||decide (was.length<=n))=true then [(n:Int)] else []):=by
 exact Yt
theorem xk(was:List (List Vl)):∀n,n<=was.length->fC was was n=[]
 | 0,_=>rfl
 | n+1,h=>by
  rw[tT,xk was n w4,if_neg]
  ·rfl
  rw[nW rfl];simp;omega
theorem B3{now:List (List Vl)}{L:List Int}(hl:now.length=was.length)(h:∀j:Nat,(j:Int)∉L->now.getD j []=was.getD j []):(fC was now now.length).length<=L.length:=by
 exact Yj
theorem KW(row:List Vl):fC was (was++[row]) (was++[row]).length=[(was.length:Int)]:=by
 exact Yl
theorem rf(t:az)(j:Nat):t.rows.getD j []=rowAt t (j:Int):=by unfold rowAt;rw[Int.toNat_natCast]
theorem BL:∀(l:List Int) (t:az),(kw t l).rows.length=t.rows.length
 | [],_=>rfl
 | i::r,t=>by rw[kw,BL r];show(t.rows.set _ _).length=_;rw[length_set]
theorem Bx(c:Nat):∀(l:List Int) (vs:List Vl) (t:az),(eH c t l vs).rows.length=t.rows.length
 | [],_,t=>by unfold eH;rfl
 | _::_,[],t=>by unfold eH;rfl
 | i::r,v::s,t=>by rw[eH,Bx c r s,BJ]
theorem J5(g:cQ t n)(s:bp)(hz:(eS t s).2.2=0):(eS t s).1.rows.length=t.rows.length/\(eS t s).2.1=((ax t s.aj).1.length:Int)/\(eS t s).1.nm=t.nm/\(eS t s).1.ay=t.ay/\∀j:Nat,(j:Int)∉(ax t s.aj).1->(eS t s).1.rows.getD j []=t.rows.getD j []:=by
 exact z12
theorem Jp{row:List Vl}(h:(fu t row).2=0):(fu t row).1.rows=t.rows++[row]:=by
 unfold fu at h |-;by_cases h1:Pc.dY t.ay row≠0
 ·exact CB
 rw[if_neg h1] at h |-;split at h
 ·cases h
 rename_i h2;rw[if_neg h2];split at h
 ·cases h
 rename_i h3;rw[if_neg h3]
theorem KX{a c:Nat}(gn:l7 l a c)(O:a+c<=30)(h:l.map az.nm=bK)(h0:0<l.length){s:bp}(hg:dH s)(ht:s.table=⟨#[116]⟩)(lA:3<=s.kind) :
  (∃e,kI l s=(([],(([],0),e)):List az×((List (List Vl)×Int)×Int))/\e≠0)\/∃t q a' E,kI l s=(l.set 0 t,(q,0))/\l7 (l.set 0 t) a' E/\(l.set 0 t).map az.nm=bK/\l[0].rows.length<=t.rows.length/\((fC l[0].rows t.rows t.rows.length).length:Int)<=(if s.kind=4 then 0 else q.2):=by
 have g:=gn.g.tb _ (getElem_mem h0);have wi:=hg.2.2.1;rcases KU l s with he|⟨he,hz⟩
 ·exact .inl he
 right;have cM:¬s.kind=1:=(by omega)
 obtain⟨a',E,_,g',_,wm⟩:=wZ gn O (dH.st hg) w4 (BZ hg) (fun e=>absurd e cM) hz;have gA:=(wm cM).trans h;have ha:aN l s.table=0:=(by rw[ht];exact x9 h)
 have iW:l.getD (0:Int).toNat (gW s)=l[0]:=(by show l.getD 0 _=_;rw[getD_eq_getElem?_getD,getElem?_eq_getElem h0];rfl)
 by_cases hk:s.kind=3
 ·have hr:eK l s=(l.set 0 (fu l[0] s.row).1,((([]:List (List Vl)),(1:Int)),(fu l[0] s.row).2)):=by
   unfold eK;rw[if_neg cM,ha,if_neg w4,if_pos hk,iW];rfl
  rw[hr] at he hz g' gA;have hq:=Jp hz;refine⟨_,_,a',E,he,g',gA,by rw[hq,length_append];omega,?_⟩;rw[hq,KW,if_neg w4];exact Int.le_refl _
 by_cases j8:s.kind=4
 ·have hr:eK l s=(l,oc l[0] s):=by
   unfold eK;rw[if_neg cM,ha,if_neg w4,if_neg hk,if_pos j8,iW]
  rw[hr] at he hz g' gA;have hs:l=l.set 0 l[0]:=(by rw[set_getElem_self])
  refine⟨l[0],(oc l[0] s).1,a',E,by rw[<-hs];exact he,by rw[<-hs];exact g',by rw[<-hs];exact gA,Nat.le_refl _,?_⟩;rw[xk _ _ (Nat.le_refl _),if_pos j8];exact Int.le_refl _
 by_cases I:s.kind=5
 ·have hr:eK l s=(l.set 0 (eS l[0] s).1,((([]:List (List Vl)),(eS l[0] s).2.1),(eS l[0] s).2.2)):=by
   unfold eK;rw[if_neg cM,ha,if_neg w4,if_neg hk,if_neg j8,if_pos I,iW];rfl
  rw[hr] at he hz g' gA;obtain⟨u1,u2,_,_,Z⟩:=J5 g s hz;refine⟨_,_,a',E,he,g',gA,by rw[u1];exact Nat.le_refl _,?_⟩;have:=B3 u1 Z;rw[if_neg j8];show _<=(eS l[0] s).2.1;rw[u2];omega
 have hr:eK l s=(l.set 0 (iT l[0] s.aj).1,((([]:List (List Vl)),(iT l[0] s.aj).2.1),(iT l[0] s.aj).2.2)):=by
  unfold eK;rw[if_neg cM,ha,if_neg w4,if_neg hk,if_neg j8,if_neg I,iW];rfl
 rw[hr] at he hz g' gA;have U:¬(ax l[0] s.aj).2≠0:=fun e=>by
  have:(iT l[0] s.aj).2.2=(ax l[0] s.aj).2:=(by unfold iT;rw[if_pos e])
  rw[this] at hz;exact e hz
 have hm:iT l[0] s.aj=(kw l[0] (ax l[0] s.aj).1,((ax l[0] s.aj).1.length:Int),(0:Int)):=(by unfold iT;rw[if_neg U])
 rw[hm] at he g' gA;obtain⟨_,e2⟩:=Bt g (wN g s.aj) (rq g s.aj);have hl:=BL (ax l[0] s.aj).1 l[0];refine⟨_,_,a',E,he,g',gA,by rw[hl];exact Nat.le_refl _,?_⟩;have:=B3 (L:=(ax l[0] s.aj).1) hl fun j hj=>by rw[rf,rf];exact e2 _ (Int.natCast_nonneg _) hj
 rw[if_neg j8];exact Int.ofNat_le.2 this

variable {G:List (Nat×List Value)} {m:Int}
theorem Ws(x y:cy):∀w,(Op.equalIn 10000 93 (.agg [.string x.n,.int .i64 x.k].toArray) (.agg [.string y.n,.int .i64 y.k].toArray)).run Tryz.prog w = .ok (x.n.toList==y.n.toList&&x.k==y.k) w:=fun w=>by
 have hS:Tryz.prog.underlying 93=some (.struct (Tryz.prog.fieldsOf 93)):=(by kernel_rfl)
 have hp:Tryz.prog.stoodInHeld 93=false:=(by kernel_rfl)
 rw[show(10000:Nat)=9999+1 from rfl,run_equalIn_agg w 9999 93 _ _ hS hp];have u:=underlying93;have E:=underlying3;have I:=underlying9;have O:=isAgg3;have U:=isAgg9;have Z:=sizeOf3;have z9:=sizeOf9;simp only[Program.fieldsOf,u];go_simp
 by_cases h1:x.n.toList=y.n.toList<;>by_cases h2:x.k=y.k<;>simp[h1,h2]
theorem TG{x y:cy}:(x.n.toList==y.n.toList&&x.k==y.k)=true↔x=y:=by
 exact Yn
theorem IV(a b:List cy)(ha:a.length<=1000000)(hb:b.length<=1000000):VP Tryz.prog G 35 [ap 2 cC a,ap 2 cC b] (bP (gk a b)):=by
 exact z24
theorem IW(a b:List Vl)(ha:a.length<=1000000)(hb:b.length<=1000000):VP Tryz.prog G 36 [ap 3 cV a,ap 3 cV b] (bP (gk a b)):=by
 exact z22
noncomputable def nI(was now:az):List Int×Int:=if now.nm=was.nm then (fC was.rows now.rows now.rows.length,0) else ([],11)
theorem zb(g:cQ t n){i:Nat}(h:i<t.rows.length):(t.rows[i]).length<=1000000:=by
 exact z119
theorem sB{i:Nat}(h:i<L.length):L.getD i []=L[i]:=by rw[getD_eq_getElem?_getD,getElem?_eq_getElem h];rfl
theorem BM{i:Nat}(h:¬i<L.length):L.getD i []=[]:=by rw[getD_eq_getElem?_getD,getElem?_eq_none w4];rfl
theorem Lu(h:(!(x.toList==y.toList))=false):x=y:=qC.1 (by unfold ja;simpa using h)
theorem VU(h:(!(x.toList==y.toList))=true):¬x=y:=fun e=>by rw[e] at h;simp at h
theorem EN:(Tryz.prog.info? 3).map (fun i=>(i.zero,i.size,i.bytes))=some (some (.int .i64 0),1,8):=by kernel_rfl
theorem y6(hm:(3,marksC)∈G)(hw:(1,wordsC)∈G)(ht:(0,typesC)∈G)(hG:(2,[Value.int .i64 m])∈G)(was now:az){k:Nat}(gw:cQ was n)(gn:cQ now k)(Hs:was.nm.size<=maxLen)(AK:now.nm.size<=maxLen)(hl:now.nm=was.nm->was.rows.length<=now.rows.length):VP Tryz.prog G 17 [.agg (cG was),.agg (cG now)] (.da [.list 1 ((nI was now).1.flatMap Tw.cI) (nI was now).1.length,ae (nI was now).2]):=by
 exact z4

theorem Ls(h:0<=j/\j<4):cx (2+j) 6=2+j:=by
 have:j=0\/j=1\/j=2\/j=3:=(by omega)
 rcases this with rfl|rfl|rfl|rfl<;>decide +kernel
theorem zZ(h:l.map az.nm=bK)(h1:1<l.length):(l[0]'w4).nm=⟨#[116]⟩/\l[1].nm=⟨#[117]⟩:=by
 exact Yw
theorem ac7(h:l.map az.nm=bK)(h1:1<l.length)(ht:(l.set 0 t).map az.nm=bK)(h0:0<(l.set 0 t).length)(h2:1<(l.set 0 t).length) :
  nI (l[0]'w4) ((l.set 0 t)[0]'h0)=(fC (l[0]'w4).rows t.rows t.rows.length,0)/\nI l[1] ((l.set 0 t)[1]'h2)=([],0)/\nI (l[0]'w4) l[1]=([],11)/\((l.set 0 t)[0]'h0)=t/\((l.set 0 t)[1]'h2)=l[1]:=by
 obtain⟨a1,a2⟩:=zZ h h1;obtain⟨b1,_⟩:=zZ ht h2;have E:(l.set 0 t)[0]'h0=t:=getElem_set_self _;have e1:(l.set 0 t)[1]'h2=l[1]:=getElem_set_ne w8 _;refine⟨?_,?_,?_,E,e1⟩
 ·rw[E] at b1 |-;exact if_pos (b1.trans a1.symm)
 ·rw[e1];unfold nI;rw[if_pos rfl,xk _ _ (Nat.le_refl _)]
 unfold nI;rw[if_neg (by rw[a1,a2];decide)]
theorem Z2(hm:(3,marksC)∈G)(hw:(1,wordsC)∈G)(ht:(0,typesC)∈G)(hG:(2,[Value.int .i64 m])∈G)(ps:List Ph)(gJ:∀p∈ps,p.Ok)(fx:ps.length<=maxLen)(p:Ph)(yY:p.Ok):VP Tryz.prog G 5 [.list 14 (ps.flatMap Ph.cs) ps.length,.agg p.cs] (bP true):=by
 refine VC.body func5 rfl ntmps5 aU fun X0 w0 bj=>?_;have cR:=dI;obtain⟨k,t,pa,pb,row,⟨x1,x2,x3,wJ⟩,⟨y1,y2,y3,wK⟩,bare⟩:=p;simp only[Ph.cs,Tw.cs,cons_append,nil_append];refine bS ?_;refine OD.box (ds:=[_,_,_,_,_,_,_,_,_,_,_,_,_,_]) aq rfl rfl ot rfl rfl (fun b3=>?_);refine an 113 [0,3] ?_;refine aB 1 ?_;refine OD.call aq rfl rfl rfl call7 (KS hm hw ht hG ps gJ fx) ⟨ot,trivial⟩ (eX _) ?_;rintro _ _ ⟨l,a,c,rfl,rfl,gn,uX,O⟩;refine OD.alloc (ds:=[_]) aq rfl rfl zeroValue31 rfl (fun b5=>?_);refine aP 0 [_] sizeOf31 ?_;refine an 113 [3,5] ?_;refine CD.seq ?_;have gp:=De O;have ow:0<l.length:=(by omega)
 have I:1<l.length:=(by omega)
 have yQ:=jd k (show(1:Int)<=4 by decide);have yL:=kL G k 4 yY.k.1 yY.k.2 w8;generalize cx k 4=j at yQ yL;obtain⟨r8,tL,j3⟩:=Lp (2+j) 0 pa pb row ⟨x1,x2,x3,wJ⟩ ⟨y1,y2,y3,wK⟩ bare;rw[Nf] at j3;rw[Ls yQ] at tL;have eU:=Lq (G:=G) (Lr yY (k':=2+j) w4 w4);generalize Pa.pQ (2+j) 0 pa pb row ⟨x1,x2,x3,wJ⟩ ⟨y1,y2,y3,wK⟩ bare=s at eU r8 j3 tL;have hr:=KT hm hw ht hG gn uX O r8 j3;rw[show vR l s=kI l s from if_neg w4] at hr;have hd:=KX gn uX O ow r8 j3 w4;unfold tN at hr;generalize kI l s=R at hr hd;obtain⟨X,⟨rs,k1⟩,E⟩:=R;dsimp only at hr;have XR:=eU;unfold aY at XR;have Xo:(((l.length:Nat):Int)==2)=true:=(by rw[gp];rfl)
 refine dw 1 ?_;refine aP 1 [_,_,_,_,_,_,_,_,_,_,_,_,_,_] sizeOf3 ?_;refine an 113 [3,5] ?_;refine aB 2 ?_;refine ez call16 (yL) ?_;refine bN (dR (r:=.int .i64 (2+j)) rfl bV ot (kN (wrap_i64 w4 w4))) ?_;refine aH 1 ?_;refine aP 1 [_,_,_,_,_,_,_,_,_,_,_,_,_,_] sizeOf3 ?_;refine an 113 [3,5] ?_;refine CD.seq ?_;refine HV 10 9 8 [3,5,6,7,29,30,31] ?_;refine cf (eU) ?_;refine cf (hr) ?_;refine kK 4 ?_;refine mo ?_;refine mo ?_;refine iz ?_;refine⟨rfl,rfl,fun b7 b6=>?_⟩;refine aP 1 [_] sizeOf31 ?_;refine aP 0 [_,_] sizeOf35 ?_;refine an 113 [3,5,6,7,8] ?_;refine CD.seq ?_;refine CD.seq ?_;rcases hd with ⟨e,h1,he⟩|⟨t2,⟨rs2,k2⟩,a2,c2,h1,tP,Df,hle,fj⟩
 ·have hE:E=e:=congrArg (fun x=>x.2.2) h1;have hX:X=[]:=congrArg (fun x=>x.1) h1;subst hX;have hne:(E != 0)=true:=(by rw[hE];exact bne_iff_ne.2 he)
  refine bM [3,5,6,7,39] ?_;refine eO ?_;exact Mh
 have hE:E=0:=congrArg (fun x=>x.2.2) h1;have hX:X=l.set 0 t2:=congrArg (fun x=>x.1) h1;have hK:k1=k2:=congrArg (fun x=>x.2.1.2) h1;subst hX;subst hK;have hne:(E != 0)=false:=(by rw[hE];rfl)
 have hU:0<(l.set 0 t2).length:=(by rw[length_set];exact ow)
 have Z:1<(l.set 0 t2).length:=(by rw[length_set];exact I)
 obtain⟨r1,r2,r3,e0,e1⟩:=ac7 O I Df hU Z;have U:=y6 hm hw ht hG l[0] ((l.set 0 t2)[0]'hU) (gn.g.tb _ (getElem_mem ow)) (tP.g.tb _ (getElem_mem hU)) (gn.g.sz _ (getElem_mem ow)) (tP.g.sz _ (getElem_mem hU)) (fun _=>by rw[e0];exact hle);have ya:=y6 hm hw ht hG l[1] ((l.set 0 t2)[1]'Z) (gn.g.tb _ (getElem_mem I)) (tP.g.tb _ (getElem_mem Z)) (gn.g.sz _ (getElem_mem I)) (tP.g.sz _ (getElem_mem Z)) (fun _=>by rw[e1];exact Nat.le_refl _);have Ng:=y6 hm hw ht hG l[0] l[1] (gn.g.tb _ (getElem_mem ow)) (gn.g.tb _ (getElem_mem I)) (gn.g.sz _ (getElem_mem ow)) (gn.g.sz _ (getElem_mem I)) (fun e=>absurd e (by obtain⟨q1,q2⟩:=zZ O I;rw[q1,q2];decide));rw[r1] at U;rw[r2] at ya;rw[r3] at Ng;dsimp only at fj;generalize fC l[0].rows t2.rows t2.rows.length=C at U fj;dsimp only at U ya Ng;refine bM [3,5,6,7,39] ?_;refine au ?_ ?_<;>intro aJ bz
 ·exact absurd aJ (by simp[gp] at aJ)
 refine cz [3,5,6,7,9,10] ?_;refine aR 2 ?_ (h:=yd);refine aR 3 ?_ (h:=Nk);refine cf (U) ?_;refine bA ?_;refine cz [3,5,7,9,10,11,12] ?_;refine aR 2 ?_ (h:=by exact(nV (mk:=Op.indexAddr 29) rfl ot bV (by first|exact oF runUnderlying29 sizeOf68 (j:=1) rfl I|exact oI runUnderlying29 sizeOf68 (j:=1) rfl I)));refine aR 3 ?_ (h:=by exact(nV (mk:=Op.indexAddr 29) rfl ot bV (by first|exact oF runUnderlying29 sizeOf68 (j:=1) rfl Z|exact oI runUnderlying29 sizeOf68 (j:=1) rfl Z)));refine cf (ya) ?_;refine bA ?_;refine cz [3,7,9,10,11,12,14] ?_;refine aR 2 ?_ (h:=yd);refine aR 3 ?_ (h:=by exact(nV (mk:=Op.indexAddr 29) rfl ot bV (by first|exact oF runUnderlying29 sizeOf68 (j:=1) rfl I|exact oI runUnderlying29 sizeOf68 (j:=1) rfl I)));refine cf (Ng) ?_;refine bA ?_;refine af [3,9,10,11,12,14,15] ?_;refine cL [9,10,11,12,14,15,91] (XR) ?_;refine au ?_ ?_<;>intro aX cr
 ·have j8:s.kind=4:=(by simpa using aX)
  rw[if_pos j8] at fj;have g1:decide (((C.length:Nat):Int)<=0)=true:=decide_eq_true fj;refine bM [9,10,11,12,14,15] ?_;exact Mh
 have j8:¬s.kind=4:=(by simpa using aX)
 rw[if_neg j8] at fj;have g1:decide (((C.length:Nat):Int)<=k1)=true:=decide_eq_true fj;refine af [4] ?_;exact z116
theorem walkChangedJust(l:List Ph)(v:Value)(ok:(∀x∈l,x.Ok)/\l.length<=maxLen)(p:Ph)(E:Value)(I:p.Ok)(w:World)(h1:MarksTab w)(h2:WordsTab w)(h3:TypesTab w){m:Int}(hm:Tab.l5 w 2 [Value.int .i64 m])(U:cq w (fun _=>False) (.list 14 (l.flatMap Ph.cs) l.length) v)(O:cq w (fun _=>False) (.agg p.cs) E):Calls Tryz.prog 5 #[v,E] w fun e w'=>e = .returned (.bool true)/\Below w.heap.size w w' :=
 (Z2 (G:=wI m) Px Py Pz PA l ok.1 ok.2 p I).Mq (Nd h1 h2 h3 hm) (vs:=[v,E]) (cD.cons U (cD.cons O (cD.vs w _ [])))

end Go.Proofs.YtbplamgacibdaaaGreatDoor.Ba
namespace Go.Proofs.YtbplamgacibdaaaGreatDoor.Pa
open Go.Proofs.Tryz
open Go.RowKit V
theorem rd_phrase{H:Type}{enc:TypeId×Value->H}{w:World}{base E:Nat}{sp:Nat->Bool}{held:Bool}{v:Value}{d:DataW H}{p:List MemPlace}(hval:Value.okWide Tryz.prog w .any E 28 v)(h:DataW.Trod enc Tryz.prog w base sp held 28 v d p) :
  ∃t:Ph,cq w (fun _=>False) (.agg t.cs) v/\t.Ok/\True:=by
 unfold Value.okWide at hval;rw[underlying28] at hval;obtain⟨cs,rfl,_⟩:=hval;obtain⟨m,hm⟩:=h;obtain⟨a,h1,h2⟩:=aby m _ _ hm;exact⟨a,by
  have:=cq.agg (w:=w) (L:=fun _=>False) a.cs cs.toList h1.1 (fun i q1 q2=>h1.2 i q1 q2)
  simpa using this,h2,trivial⟩
end Go.Proofs.YtbplamgacibdaaaGreatDoor.Pa
